import PyProof.Rows.All
import Wide.All
import OpenK.AllK
import Wide.FinOn
import HandS.ForMost
import HandS.ForExc
import HandS.Style
import HandS.IsInst
import HandS.Walk
import HandS.Zip
import HandS.Defaults
import HandS.StrMore
import HandS.Strs
import HandS.HeadEnd
import HandS.HeadHook4
import HandS.Head2
import HandS.SortRule
import HandS.SortInts
import HandS.Conv
import HandS.NoneIn
import HandS.RaiseFrom
import HandS.TryMany
import HandS.ExcIs
import HandS.ExcField
import HandS.Text
import HandS.More
import HandS.Deep
import HandS.DictTup
import HandS.SetFor
import KE.GoesZip
import KE.GoesMore
import KE.KeyNested
import KE.KDictCopyH
import KE.KDictSum
import PyProof.ListStr
import KE.KDictWalk
import HandS.ListEq
import HandS.TupLen
import HandS.Comp
import HandS.HotCalls
import HandS.Finally
import PySem.Challenge.RW_wornband_k14_whole_mirrors
set_option Elab.async false
set_option linter.all false
set_option maxRecDepth 100000
set_option maxHeartbeats 3900000
/-! PX: a small core language over data, checked against the program's own text, and its reading. Part a: data, how the heap bears it. -/
namespace PX
open PySem PySem.Spec PyProof.Rows L2

/-- what sort of box -/
inductive Kind where
  | lst | dk (ks : List Key) | dt (ks : List (List Key)) | ob (c : Str) (ns : List Str)
  deriving DecidableEq
/-- data: dead is a slot of which nothing is known; a box is a list, a dict, an instance; o tells whether it is held by one owner alone -/
inductive D where
  | dead | non | bl (b : Bool) | int (i : Int) | str (x : Str)
  | scr (ns : List Int) | tup (xs : List D) | ctup (xs : List Str) | exv (c : Str) (fs : List D) | box (o : Bool) (k : Kind) (ds : List D)
abbrev D.lst (o : Bool) (ds : List D) : D := .box o .lst ds
mutual
/-- no box within is owned -/
def D.no : D → Bool
  | .tup xs => D.nos xs
  | .box o _ ds => !o && D.nos ds
  | _ => true
def D.nos : List D → Bool
  | [] => true
  | d :: ds => D.no d && D.nos ds
end
mutual
def D.frz : D → D
  | .tup xs => .tup (D.frzs xs)
  | .box _ k ds => .box false k (D.frzs ds)
  | .dead => .dead | .non => .non | .bl b => .bl b | .int i => .int i | .str x => .str x | .scr ns => .scr ns | .ctup xs => .ctup xs | .exv c fs => .exv c fs
def D.frzs : List D → List D
  | [] => []
  | d :: ds => D.frz d :: D.frzs ds
end
/-- the own errors: those that are raised, those that are caught, whether they are told apart -/
structure Xs where
  rs : List Str
  es : List Str
  cx : Bool
  fs : List (Str × Str)
/-- the written part, the classes' addresses, the exception that is handled and its class -/
structure Kx where
  fr : PySem.W.Frag
  ca : Str → Option Addr
  xs : Xs
  exc : Option (Addr × Str)
/-- an object as a box -/
inductive HK (K : Kx) : Kind → HO → List V → Prop
  | lst (vs : List V) : HK K .lst (.lst vs) vs
  | dk (kvs : List (Key × V)) : HK K (.dk (kvs.map (·.1))) (.dK kvs) (kvs.map (·.2))
  | dt (kvs : List (List Key × V)) : HK K (.dt (kvs.map (·.1))) (.dT kvs) (kvs.map (·.2))
  | ob {c : Str} {C dx : Addr} (fs : List (Str × V)) (h : K.ca c = some C) (hc : Cls K.fr C) (hn : ∀ f ∈ fs.map (·.1), NoAttr K.fr C f) : HK K (.ob c (fs.map (·.1))) (.ins C dx fs) (fs.map (·.2))
/-- readable and frozen -/
def Fz (K : Kx) (F : Hp) (a : Addr) (k : Kind) (vs : List V) : Prop := ∃ o, F a = some o ∧ HK K k o vs
mutual
inductive R (K : Kx) (F H : Hp) : V → D → List Addr → Prop
  | dead {v : V} : R K F H v .dead []
  | non : R K F H .non .non []
  | bl (b : Bool) : R K F H (.bl b) (.bl b) []
  | int (i : Int) : R K F H (.int i) (.int i) []
  | str (x : Str) : R K F H (.str x) (.str x) []
  | scr {a : Addr} (ns : List Int) : SqL K.fr F a (ns.map V.int) → R K F H (.ref a) (.scr ns) []
  | tup {a : Addr} {vs : List V} {xs : List D} {fp : List Addr} : H a = some (.tup vs) → Rs K F H vs xs fp → R K F H (.ref a) (.tup xs) fp
  | ctup {a : Addr} (xs : List Str) : (∀ H, SqT K.fr H a (xs.map V.str)) → (∃ o, K.fr.lookup a = some o ∧ o.cls = .type "tuple" ∧ o.dict = none) → R K F H (.ref a) (.ctup xs) []
  | frz {a : Addr} {k : Kind} {vs : List V} {ds : List D} : Fz K F a k vs → Rs K F H vs ds [] → R K F H (.ref a) (.box false k ds) []
  | exv {a : Addr} {c : Str} : K.exc = some (a, c) → R K F H (.ref a) (.exv c []) []
  | own {a : Addr} {k : Kind} {o : HO} {vs : List V} {ds : List D} {fp : List Addr} : H a = some o → HK K k o vs → F a = none → Rs K F H vs ds fp → a ∉ fp → R K F H (.ref a) (.box true k ds) (a :: fp)
inductive Rs (K : Kx) (F H : Hp) : List V → List D → List Addr → Prop
  | nil : Rs K F H [] [] []
  | cons {v : V} {vs : List V} {d : D} {ds : List D} {f g : List Addr} : R K F H v d f → Rs K F H vs ds g → (∀ p ∈ f, p ∉ g) → Rs K F H (v :: vs) (d :: ds) (f ++ g)
end

theorem Fz.mono {K : Kx} {F F' : Hp} {a : Addr} {k : Kind} {vs : List V} (h : Fz K F a k vs) (s : Same F F') : Fz K F' a k vs := by
  obtain ⟨o, h, hk⟩ := h
  exact ⟨o, s _ _ h, hk⟩
theorem same_tup {H H' : Hp} {a : Addr} {xs : List V} (e : Same H H') (h : H a = some (.tup xs)) : H' a = some (.tup xs) := e _ _ h
theorem same_tup0 {K : PySem.W.Frag} {H H' : Hp} {a : Addr} {xs : List V} (e : Same H H') (h : SqT K H a xs) : SqT K H' a xs := by
  rcases h with (h | ⟨o, h⟩) | h
  · exact .inl (.inl (e _ _ h))
  · exact .inl (.inr ⟨o, e _ _ h⟩)
  · exact .inr h

mutual
/-- the heap moves on: tuples stay, what is frozen stays, the owned boxes stay -/
theorem R.mono {K : Kx} {F H F' H' : Hp} (hF : Same F F') (hT : ∀ a vs, H a = some (.tup vs) → H' a = some (.tup vs)) :
    ∀ {v : V} {d : D} {fp : List Addr}, R K F H v d fp → (∀ p ∈ fp, H' p = H p ∧ F' p = none) → R K F' H' v d fp
  | _, _, _, .dead, _ => .dead
  | _, _, _, .non, _ => .non
  | _, _, _, .bl b, _ => .bl b
  | _, _, _, .int i, _ => .int i
  | _, _, _, .str x, _ => .str x
  | _, _, _, .scr ns h, _ => .scr ns (hF.seq h)
  | _, _, _, .tup h hs, k => .tup (hT _ _ h) (Rs.mono hF hT hs k)
  | _, _, _, .ctup xs h hd, _ => .ctup xs h hd
  | _, _, _, .exv h, _ => .exv h
  | _, _, _, .frz h hs, _ => .frz (h.mono hF) (Rs.mono hF hT hs (fun _ z => nomatch z))
  | _, _, _, .own (a := a) h hk n hs na, k => .own (by rw [(k a List.mem_cons_self).1]; exact h) hk (k a List.mem_cons_self).2 (Rs.mono hF hT hs fun p hp => k p (List.mem_cons_of_mem _ hp)) na
theorem Rs.mono {K : Kx} {F H F' H' : Hp} (hF : Same F F') (hT : ∀ a vs, H a = some (.tup vs) → H' a = some (.tup vs)) :
    ∀ {vs : List V} {ds : List D} {fp : List Addr}, Rs K F H vs ds fp → (∀ p ∈ fp, H' p = H p ∧ F' p = none) → Rs K F' H' vs ds fp
  | _, _, _, .nil, _ => .nil
  | _, _, _, .cons h hs n, k => .cons (R.mono hF hT h fun p hp => k p (List.mem_append_left _ hp)) (Rs.mono hF hT hs fun p hp => k p (List.mem_append_right _ hp)) n
end
mutual
/-- the owned boxes are there, not frozen -/
theorem R.there {K : Kx} {F H : Hp} : ∀ {v : V} {d : D} {fp : List Addr}, R K F H v d fp → ∀ p ∈ fp, F p = none ∧ ∃ k o vs, H p = some o ∧ HK K k o vs
  | _, _, _, .dead, _, hp => nomatch hp
  | _, _, _, .non, _, hp => nomatch hp
  | _, _, _, .bl _, _, hp => nomatch hp
  | _, _, _, .int _, _, hp => nomatch hp
  | _, _, _, .str _, _, hp => nomatch hp
  | _, _, _, .scr _ _, _, hp => nomatch hp
  | _, _, _, .ctup _ _ _, _, hp => nomatch hp
  | _, _, _, .exv _, _, hp => nomatch hp
  | _, _, _, .frz _ _, _, hp => nomatch hp
  | _, _, _, .tup _ hs, p, hp => Rs.there hs p hp
  | _, _, _, .own h hk n hs _, p, hp => by
    rcases List.mem_cons.mp hp with rfl | hp
    · exact ⟨n, _, _, _, h, hk⟩
    · exact Rs.there hs p hp
theorem Rs.there {K : Kx} {F H : Hp} : ∀ {vs : List V} {ds : List D} {fp : List Addr}, Rs K F H vs ds fp → ∀ p ∈ fp, F p = none ∧ ∃ k o vs, H p = some o ∧ HK K k o vs
  | _, _, _, .nil, _, hp => nomatch hp
  | _, _, _, .cons h hs _, p, hp => by
    rcases List.mem_append.mp hp with hp | hp
    · exact R.there h p hp
    · exact Rs.there hs p hp
end
mutual
theorem R.noOwn {K : Kx} {F H : Hp} : ∀ {v : V} {d : D} {fp : List Addr}, R K F H v d fp → d.no = true → fp = []
  | _, _, _, .dead, _ => rfl
  | _, _, _, .non, _ => rfl
  | _, _, _, .bl _, _ => rfl
  | _, _, _, .int _, _ => rfl
  | _, _, _, .str _, _ => rfl
  | _, _, _, .scr _ _, _ => rfl
  | _, _, _, .ctup _ _ _, _ => rfl
  | _, _, _, .exv _, _ => rfl
  | _, _, _, .tup _ hs, e => Rs.noOwn hs e
  | _, _, _, .frz _ _, _ => rfl
  | _, _, _, .own _ _ _ _ _, e => by
    unfold D.no at e
    cases e
theorem Rs.noOwn {K : Kx} {F H : Hp} : ∀ {vs : List V} {ds : List D} {fp : List Addr}, Rs K F H vs ds fp → D.nos ds = true → fp = []
  | _, _, _, .nil, _ => rfl
  | _, _, _, .cons h hs _, e => by
    unfold D.nos at e
    obtain ⟨e1, e2⟩ := Bool.and_eq_true_iff.mp e
    rw [R.noOwn h e1, Rs.noOwn hs e2]
    rfl
end
mutual
/-- frozen on the spot: F' holds what stands at the owned boxes -/
theorem R.freeze {K : Kx} {F H F' : Hp} (hF : Same F F') :
    ∀ {v : V} {d : D} {fp : List Addr}, R K F H v d fp → (∀ p ∈ fp, F' p = H p) → R K F' H v d.frz []
  | _, _, _, .dead, _ => .dead
  | _, _, _, .non, _ => .non
  | _, _, _, .bl b, _ => .bl b
  | _, _, _, .int i, _ => .int i
  | _, _, _, .str x, _ => .str x
  | _, _, _, .scr ns h, _ => .scr ns (hF.seq h)
  | _, _, _, .tup h hs, k => .tup h (Rs.freeze hF hs k)
  | _, _, _, .ctup xs h hd, _ => .ctup xs h hd
  | _, _, _, .exv h, _ => .exv h
  | _, _, _, .frz h hs, _ => .frz (h.mono hF) (Rs.freeze hF hs (fun _ z => nomatch z))
  | _, _, _, .own (a := a) h hk n hs na, k => .frz ⟨_, by rw [k a List.mem_cons_self]; exact h, hk⟩ (Rs.freeze hF hs fun p hp => k p (List.mem_cons_of_mem _ hp))
theorem Rs.freeze {K : Kx} {F H F' : Hp} (hF : Same F F') :
    ∀ {vs : List V} {ds : List D} {fp : List Addr}, Rs K F H vs ds fp → (∀ p ∈ fp, F' p = H p) → Rs K F' H vs (D.frzs ds) []
  | _, _, _, .nil, _ => .nil
  | _, _, _, .cons h hs _, k => .cons (f := []) (g := []) (R.freeze hF h fun p hp => k p (List.mem_append_left _ hp)) (Rs.freeze hF hs fun p hp => k p (List.mem_append_right _ hp)) (fun _ z => nomatch z)
end
mutual
theorem D.frz_no : ∀ d : D, d.no = true → d.frz = d
  | .dead, _ | .non, _ | .bl _, _ | .int _, _ | .str _, _ | .scr _, _ | .ctup _, _ | .exv _ _, _ => by first | rfl | (unfold D.frz; rfl)
  | .tup xs, e => by
    unfold D.no at e
    unfold D.frz
    rw [D.frzs_nos xs e]
  | .box o k ds, e => by
    unfold D.no at e
    obtain ⟨e1, e2⟩ := Bool.and_eq_true_iff.mp e
    unfold D.frz
    rw [D.frzs_nos ds e2]
    cases o with
    | false => rfl
    | true => cases e1
theorem D.frzs_nos : ∀ ds : List D, D.nos ds = true → D.frzs ds = ds
  | [], _ => rfl
  | d :: ds, e => by
    unfold D.nos at e
    obtain ⟨e1, e2⟩ := Bool.and_eq_true_iff.mp e
    unfold D.frzs
    rw [D.frz_no d e1, D.frzs_nos ds e2]
end
mutual
theorem D.no_frz : ∀ d : D, d.frz.no = true
  | .dead | .non | .bl _ | .int _ | .str _ | .scr _ | .ctup _ | .exv _ _ => by first | rfl | (unfold D.frz; rfl)
  | .tup xs => by
    unfold D.frz D.no
    exact D.nos_frzs xs
  | .box o k ds => by
    unfold D.frz D.no
    exact D.nos_frzs ds
theorem D.nos_frzs : ∀ ds : List D, D.nos (D.frzs ds) = true
  | [] => rfl
  | d :: ds => by
    unfold D.frzs D.nos
    rw [D.no_frz d, D.nos_frzs ds]
    rfl
end
theorem Rs.length {K : Kx} {F H : Hp} : ∀ {vs : List V} {ds : List D} {fp : List Addr}, Rs K F H vs ds fp → vs.length = ds.length
  | _, _, _, .nil => rfl
  | _, _, _, .cons _ hs _ => by rw [List.length_cons, List.length_cons, Rs.length hs]
theorem Rs.get {K : Kx} {F H : Hp} : ∀ {vs : List V} {ds : List D} {fp : List Addr}, Rs K F H vs ds fp → ∀ {i : Nat} {d : D}, ds[i]? = some d → ∃ v g, vs[i]? = some v ∧ R K F H v d g ∧ ∀ p ∈ g, p ∈ fp
  | _, _, _, .nil, _, _, e => by simp at e
  | _, _, _, .cons (f := f) h hs n, 0, d, e => by
    simp at e
    subst e
    exact ⟨_, f, rfl, h, fun p hp => List.mem_append_left _ hp⟩
  | _, _, _, .cons h hs n, i + 1, d, e => by
    obtain ⟨v, g, e1, r, k⟩ := Rs.get hs (i := i) (d := d) (by simpa using e)
    exact ⟨v, g, by simpa using e1, r, fun p hp => List.mem_append_right _ (k p hp)⟩
theorem Rs.get' {K : Kx} {F H : Hp} : ∀ {vs : List V} {ds : List D} {fp : List Addr}, Rs K F H vs ds fp → ∀ {i : Nat} {v : V}, vs[i]? = some v → ∃ d g, ds[i]? = some d ∧ R K F H v d g ∧ ∀ p ∈ g, p ∈ fp
  | _, _, _, .nil, _, _, e => by simp at e
  | _, _, _, .cons (f := f) h hs n, 0, d, e => by
    simp at e
    subst e
    exact ⟨_, f, rfl, h, fun p hp => List.mem_append_left _ hp⟩
  | _, _, _, .cons h hs n, i + 1, d, e => by
    obtain ⟨v, g, e1, r, k⟩ := Rs.get' hs (i := i) (v := d) (by simpa using e)
    exact ⟨v, g, by simpa using e1, r, fun p hp => List.mem_append_right _ (k p hp)⟩
/-- frozen items: any choice of them is one again -/
theorem Rs.nil_of {K : Kx} {F H : Hp} {vs : List V} {ds : List D} (hl : vs.length = ds.length) (h : ∀ (i : Nat) (v : V) (d : D), vs[i]? = some v → ds[i]? = some d → R K F H v d []) : Rs K F H vs ds [] := by
  induction vs generalizing ds with
  | nil =>
    cases ds with
    | nil => exact .nil
    | cons _ _ => cases hl
  | cons v vs ih =>
    cases ds with
    | nil => cases hl
    | cons d ds => exact .cons (f := []) (g := []) (h 0 v d rfl rfl) (ih (by simpa using hl) fun i w e h1 h2 => h (i + 1) w e (by simpa using h1) (by simpa using h2)) (fun _ z => nomatch z)
theorem Rs.at {K : Kx} {F H : Hp} {vs : List V} {ds : List D} (h : Rs K F H vs ds []) : ∀ (i : Nat) (v : V) (d : D), vs[i]? = some v → ds[i]? = some d → R K F H v d [] := fun i v d e1 e2 => by
  obtain ⟨w, g, q1, r, k⟩ := Rs.get h e2
  rw [e1] at q1
  cases q1
  have : g = [] := List.eq_nil_iff_forall_not_mem.mpr fun p hp => nomatch k p hp
  subst this
  exact r
theorem Rs.take {K : Kx} {F H : Hp} {vs : List V} {ds : List D} (h : Rs K F H vs ds []) (n : Nat) : Rs K F H (vs.take n) (ds.take n) [] :=
  .nil_of (by rw [List.length_take, List.length_take, h.length]) fun i v d e1 e2 => by
    rw [List.getElem?_take] at e1 e2
    split at e1
    · rename_i hi
      rw [if_pos hi] at e2
      exact h.at i v d e1 e2
    · cases e1
theorem Rs.drop {K : Kx} {F H : Hp} {vs : List V} {ds : List D} (h : Rs K F H vs ds []) (n : Nat) : Rs K F H (vs.drop n) (ds.drop n) [] :=
  .nil_of (by rw [List.length_drop, List.length_drop, h.length]) fun i v d e1 e2 => by
    rw [List.getElem?_drop] at e1 e2
    exact h.at _ v d e1 e2
theorem Rs.app {K : Kx} {F H : Hp} : ∀ {vs ws : List V} {ds es : List D} {f g : List Addr}, Rs K F H vs ds f → Rs K F H ws es g → (∀ p ∈ f, p ∉ g) → Rs K F H (vs ++ ws) (ds ++ es) (f ++ g)
  | _, _, _, _, _, _, .nil, k, _ => k
  | _, _, _, _, _, _, .cons (f := f1) (g := g1) h hs n, k, n2 => by
    rw [List.append_assoc]
    refine .cons h (Rs.app hs k fun p hp => n2 p (List.mem_append_right _ hp)) fun p hp hq => ?_
    rcases List.mem_append.mp hq with hq | hq
    · exact n p hp hq
    · exact n2 p (List.mem_append_left _ hp) hq
theorem Rs.app0 {K : Kx} {F H : Hp} {vs ws : List V} {ds es : List D} (h : Rs K F H vs ds []) (k : Rs K F H ws es []) : Rs K F H (vs ++ ws) (ds ++ es) [] := Rs.app h k (fun _ z => nomatch z)
theorem Rs.rev {K : Kx} {F H : Hp} {vs : List V} {ds : List D} (h : Rs K F H vs ds []) : Rs K F H vs.reverse ds.reverse [] :=
  .nil_of (by rw [List.length_reverse, List.length_reverse, h.length]) fun i v d e1 e2 => by
    have l1 : i < vs.length := by
      have := (List.getElem?_eq_some_iff.mp e1).1
      simpa using this
    rw [List.getElem?_reverse l1] at e1
    rw [List.getElem?_reverse (by rw [← h.length]; exact l1), ← h.length] at e2
    exact h.at _ v d e1 e2
theorem Rs.one {K : Kx} {F H : Hp} {v : V} {d : D} {f : List Addr} (h : R K F H v d f) : Rs K F H [v] [d] f := by
  have := Rs.cons h .nil (fun p _ z => nomatch z)
  rw [List.append_nil] at this
  exact this
end PX

/-! PX, part y: what the hand layer lacks. -/
namespace PX
open PySem PySem.Spec PyProof.Rows
section
variable {P : Program} {w : World} {A : Around} {E : Value → Shared → Prop} {s : Shared}
theorem tells_none {stored : List Value} {Q : Bool → Shared → Prop} {K : Type} [DecidableEq K] {knd : HeapKind P w K} (hst : ∀ v ∈ stored, ∃ k' b, v = .ref b ∧ knd.is s.heap k' b) (h : Q false s) : wpAny (model P w) A (tableMayTell .none stored) Q E s := by
  unfold tableMayTell
  split
  · exact wpAny_pure h
  · refine wpAny_bind (QuietAt.byValue rfl _ _ _ ?_)
    rw [if_neg (by decide)]
    refine wpAny_bind (wpAny_forIn_list _ (fun rest r s' => s' = s ∧ r = (none, ()) ∧ ∀ v ∈ rest, ∃ k' b, v = .ref b ∧ knd.is s.heap k' b) _ ?_ ?_ _ _ ⟨rfl, rfl, hst⟩)
    · rintro x rest r s' ⟨e1, e2, hr⟩
      subst e1 e2
      obtain ⟨k', b, e, hb⟩ := hr x List.mem_cons_self
      subst e
      refine wpAny_bind (knd.quiet hb ?_)
      rw [if_neg (by decide)]
      exact wpAny_pure ⟨rfl, rfl, fun v hv => hr v (List.mem_cons_of_mem _ hv)⟩
    · rintro r s' ⟨e1, e2, _⟩
      subst e1 e2
      exact wpAny_pure h

theorem places_nil {es : Array DictEntry} {h : Int} (e : (placesWithHash es.size (fun i => es[i]?.map (·.hash)) h).filterMap (fun i => es[i]?.map (·.key)) = []) : placesWithHash es.size (fun i => es[i]?.map (·.hash)) h = [] := by
  refine List.eq_nil_iff_forall_not_mem.mpr fun i hi => ?_
  have h1 := List.filterMap_eq_nil_iff.mp e i hi
  unfold placesWithHash at hi
  have h2 : (es[i]?.map (·.hash) == some h) = true := (List.mem_filter.mp hi).2
  have h1 : es[i]?.map (·.key) = none := h1
  cases q : es[i]? with
  | none => rw [q] at h2; cases h2
  | some x => rw [q] at h1; cases h1
theorem findN {d : Addr} {o : Obj} {es : Array DictEntry} {ep : Nat} {h : Int} {K : Type} [DecidableEq K] {knd : KeyKind P w K} {Q : Option Nat → Shared → Prop} (hu : A.units < cLine)
    (ho : s.heap.get? d = some o) (hd : o.data = .dict es ep) (hk : ∀ e ∈ es.toList, ∃ k' b, e.key = .ref b ∧ (tupleKind knd).is s.heap k' b) (q : Q none s) :
    wpAny (model P w) A (dictFind d .none h) Q E s := by
  have hst : ∀ v ∈ (placesWithHash es.size (fun i => es[i]?.map (·.hash)) h).filterMap (fun i => es[i]?.map (·.key)), ∃ k' b, v = .ref b ∧ (tupleKind knd).is s.heap k' b := by
    intro v hv
    obtain ⟨i, _, hi⟩ := List.mem_filterMap.mp hv
    cases hei : es[i]? with
    | none => rw [hei] at hi; cases hi
    | some e =>
      rw [hei] at hi
      obtain rfl : e.key = v := by simpa using hi
      exact hk e (Array.mem_toList_iff.mpr (Array.mem_of_getElem? hei))
  unfold dictFind
  try with_reducible refine wpAny_holding ?_
  refine wpAny_bind (wpAny_dictEntries ho hd ?_)
  dsimp only
  generalize hpl : placesWithHash es.size (fun i => es[i]?.map (·.hash)) h = places at hst ⊢
  by_cases hc : ((Value.none :: places.filterMap (fun i => es[i]?.map (·.key))).all carriedByValue) = true
  · rw [if_pos hc]
    have hn : places.filterMap (fun i => es[i]?.map (·.key)) = [] := by
      refine List.eq_nil_iff_forall_not_mem.mpr fun v hv => ?_
      obtain ⟨k', b, e, _⟩ := hst v hv
      have := List.all_eq_true.mp hc v (List.mem_cons_of_mem _ hv)
      rw [e] at this
      cases this
    have hp : places = [] := by
      rw [← hpl] at hn ⊢
      exact places_nil hn
    subst hp
    unfold dictWalkPlain
    first
      | exact wpAny_pure q
      | exact wpAny_bind (wpAny_pure (wpAny_pure q))
      | exact wpAny_bind (wpAny_bind (wpAny_pure (wpAny_pure q)))
  · rw [if_neg hc]
    by_cases hone : ((places.filterMap (fun i => es[i]?.map (·.key))) == [Value.none]) = true <;>
    (first | rw [if_pos hone] | rw [if_neg hone]) <;> (first | refine wpAny_bind (wpAny_pure ?_) | refine wpAny_bind (tells_none (knd := tupleKind knd) hst ?_)) <;> (
      rw [if_neg (by simp)]
      refine wpAny_bind (wpAny_forIn_list _ (fun rest b s' => s' = s ∧ b = (none, none)) _ ?_ ?_ _ _ ⟨rfl, rfl⟩)
      · rintro x rest b s' ⟨e1, e2⟩
        subst e1 e2
        cases hx : es[x]? with
        | none => exact wpAny_pure ⟨rfl, rfl⟩
        | some e =>
          dsimp only
          by_cases hh : (e.hash == h) = true
          · rw [if_pos hh]
            obtain ⟨k', b, eb, o', its, n, g1, g2, g3, _⟩ := hk e (Array.mem_toList_iff.mpr (Array.mem_of_getElem? hx))
            rw [eb]
            refine wpAny_bind (wpAny_dictEpoch ho hd (wpAny_bind ((SeqAt.EqAt.tuple_none (items := its) ⟨o', g1, g2, n, g3⟩ hu) _ _ _ _ (wpAny_bind (wpAny_dictEpoch ho hd ?_)))))
            show wpAny _ _ (if (ep != ep) = true then _ else _) _ E _
            rw [if_neg (by simp)]
            simp only [Bool.false_eq_true, if_false]
            refine wpAny_bind (wpAny_rule ?_)
            first | rw [if_neg (by simp)] | skip
            first
              | exact wpAny_pure ⟨rfl, rfl⟩
              | exact wpAny_bind (wpAny_pure (wpAny_pure ⟨rfl, rfl⟩))
          · rw [if_neg hh]
            exact wpAny_pure ⟨rfl, rfl⟩
      · rintro b s' ⟨e1, e2⟩
        subst e1 e2
        exact wpAny_pure q)
theorem getN {d : Addr} {K : Type} [DecidableEq K] {knd : KeyKind P w K} {xs : List (List K × Addr × Value)} {Q : Option Value → Shared → Prop} (hu : A.units < cLine) (hm : s.heap.DictOfH (tupleKind knd) d xs) (q : ∀ t, Q none { s with toks := t }) :
    wpAny (model P w) A (dictGet d .none) Q E s := by
  obtain ⟨o, es, ep, ho, _, hd, he, his, hn⟩ := hm
  unfold dictGet
  try with_reducible refine wpAny_holding ?_
  refine wpAny_bind (pyHash_key (.none) .none A s _ .none (by exact hu) (wpAny_bind (findN (knd := knd) hu ho hd (fun e he2 => ?_) (wpAny_pure (q _)))))
  rw [he] at he2
  obtain ⟨x, hx, rfl⟩ := List.mem_map.mp he2
  exact ⟨x.1, x.2.1, rfl, his x hx⟩
end
open L2
section
variable {X : Cx} {pins : List (Addr × Obj)} {σ : L2.St} {H : Hp} {s : Shared} {A : Around} {E : Value → Shared → Prop}
/-- d.get(None, z) of a dict whose keys are tuples -/
theorem d_get2N {a : Addr} {d : V} {r : Value} {kvs : List (List Key × V)} {Q : Value → Shared → Prop} (hu : A.units + 1 < cLine) (I : Inv X pins σ H s) (e : Rd H a (.dT kvs)) (rd : RelV d r) (h : ∀ s', Inv X pins σ H s' → Q r s') :
    wpAny (model X.prog X.w) A (call (.builtin "dict.get") [.ref a, .none, r]) Q E s := by
  obtain ⟨z, hd, xs, rel, dd⟩ := dt_rd I.hok e
  have m : MeetsIn X.prog X.w (Builtin.«dict.get» ⟨[.ref a, .none, r], []⟩) (fun A R s => A.in1.units < cLine ∧ s.heap.DictOfH (tupleKind (mixKind X.prog X.w)) a xs ∧ ∀ t, R (.ok (.ret r)) { s with toks := t }) := .of_wp fun A R s ⟨hu, hm, h⟩ => by
    show wpAny _ _ (dictGet a .none >>= _) _ _ s
    refine wpAny_bind (getN hu hm fun t => ?_)
    show wpAny _ _ (Builtin.Dict.missed a .none >>= _) _ _ _
    exact wpAny_bind (wpAny_missed_other hd (wpAny_pure ⟨r, rfl, h t⟩))
  refine call_meetsIn PySem.F.slot_dict_get dd.typeIs PySem.F.entry_dict_get (PySem.F.args_dict_get_3 _ _ _) m ⟨by show A.units + 1 < cLine; exact hu, dd, fun t => h _ (I.tok t)⟩
def tGetN (td ty tx : TE) : TE := fun σ H Q => td σ H fun x H1 => ∃ a, x = .ref a ∧ IsD H1 a ∧ ty σ H1 fun y H2 => tx σ H2 fun z H3 => (∃ o, DGet H3 a y o ∧ Q (o.getD z) H3) ∨ (y = .non ∧ (∃ kvs, Rd H3 a (.dT kvs)) ∧ Q z H3)
theorem pe_getN {o e f : Expr} {apos cpos : Pos} {td ty tx : TE} (hu : X.A.units + 1 < cLine) (ho : PE X o td) (he : PE X e ty) (hf : PE X f tx) (m : M2 X o "get" apos e f cpos) : PE X (.Call (.Attribute o "get" apos) [e, f] [] cpos) (tGetN td ty tx) := by
  refine ⟨fun pins s σ H Q I h => wpAny_Call_method m.base m.few m.line PySem.F.plainAttrs_dict PySem.F.slot_dict_get PySem.F.type_dict_get (thn (ho.run pins s σ H _ I h) fun u s1 hx => ?_)⟩
  obtain ⟨x, H1, I1, rx, a, ex, d, q1⟩ := hx
  subst ex
  obtain rfl : u = Value.ref a := rx
  have T := isD_at I1 d
  refine ⟨T.1, T.2.1, ?_⟩
  rw [m.trees]
  refine Calls.callWith_builtin rfl (Calls.evalArgs_plain (Calls.spliced_cons (thn (he.run pins s1 σ H1 _ I1 q1) fun iv s2 hy => Calls.spliced_cons ?_)))
  obtain ⟨y, H2, I2, ry, q2⟩ := hy
  refine thn (hf.run pins s2 σ H2 _ I2 q2) fun fv s3 hz => Calls.spliced_nil ?_
  obtain ⟨z, H3, I3, rz, q3⟩ := hz
  rcases q3 with ⟨ov, g, q3⟩ | ⟨ey, ⟨kvs, ek⟩, q3⟩
  · exact d_get2 hu I3 g ry rz fun w' s4 I4 rw' => ⟨_, H3, I4, rw', q3⟩
  · subst ey
    obtain rfl : iv = Value.none := ry
    exact d_get2N hu I3 ek rz fun s4 I4 => ⟨z, H3, I4, rz, q3⟩
/-- sorted(d.keys()), the keys pairs of ints -/
def tSortKeys (to : TE) : TE := fun σ H Q => to σ H fun x H1 => ∃ d kvs, x = .ref d ∧ Rd H1 d (.dT kvs) ∧ ∀ bs, IsKeys H1 kvs bs → ∃ k : V → Int × Int, (∀ x ∈ bs.map V.ref, ∃ t, x = V.ref t ∧ H1 t = some (.tup [.int (k x).1, .int (k x).2])) ∧
  ∀ ys p, SrtO.Srtd (ltP k) ys → SrtO.Stb (ltP k) ys (bs.map V.ref) → H1 p = none → Q (.ref p) (upd H1 p (.lst ys))
theorem sort_keys {d r : Addr} {kvs : List (List Key × V)} {Q : VK} (hc : X.calm = true) (I : Inv X pins σ H s) (hd : Rd H d (.dT kvs)) (hv : PySem.W.KdlKeysView s.heap r d)
    (q : ∀ bs, IsKeys H kvs bs → ∃ k : V → Int × Int, (∀ x ∈ bs.map V.ref, ∃ t, x = V.ref t ∧ H t = some (.tup [.int (k x).1, .int (k x).2])) ∧
      ∀ ys p, SrtO.Srtd (ltP k) ys → SrtO.Stb (ltP k) ys (bs.map V.ref) → H p = none → Q (.ref p) (upd H p (.lst ys))) :
    wpAny (model X.prog X.w) X.A (call (.builtin "sorted") [.ref r]) (EP X pins σ Q) X.xe s := by
  obtain ⟨z, hs, ks, pr, o, es, ep, ho, hx, hdt, he, hn⟩ := (show ObjOk X.prog X.w H s.heap d (.dT kvs) from hd.ok I.hok)
  have l1 : es.size = ks.length := size_of_entries he
  have l2 : kvs.length = ks.length := Paired.length pr
  have h16 : es.size ≤ sizeLine := by omega
  obtain ⟨k, hk, q⟩ := q _ (isKeys_of pr)
  refine Calls.call_function_entry PyProof.Rows.kind_sorted PyProof.Rows.plain_sorted PyProof.Rows.entry_sorted (PyProof.Rows.args_sorted1 _) ?_
  unfold Builtin.«sorted»
  refine wpAny_bind (m := checkCount "sorted" 1 1 _) (wpAny_pure ?_)
  refine wpAny_bind (PySem.W.kdu_collect (A := X.A.in1) (KdlSrc.rawKeys (es := es) (ep := ep)) (I.ok.hd hc) ⟨hv, ⟨o, ho, hx, hdt⟩⟩ h16 fun h' tk acc kp it => ?_)
  have ea : acc.toList = (ks.map fun x => x.2.1).map Value.ref := by
    have hl : acc.toList.length = ks.length := by rw [Array.length_toList, it.1]; exact l1
    refine List.ext_getElem (by rw [hl, List.length_map, List.length_map]) fun j h1 h2 => ?_
    have hj : acc.toList[j]? = some acc.toList[j] := List.getElem?_eq_getElem h1
    obtain ⟨hi, hv⟩ := it.2 j _ (by rw [← Array.getElem?_toList]; exact hj)
    have qe := entry_at he j
    rw [Array.getElem?_eq_getElem hi, List.getElem?_eq_getElem (by omega)] at qe
    have e2 := Option.some.inj qe
    rw [hv, e2]
    simp [entryOfKey]
  have I1 : Inv X pins σ H { s with heap := h', toks := tk } := I.kept kp
  generalize hbs : (ks.map fun x => x.2.1) = bs at ea hk q
  have hzl : acc.toList.length ≤ sizeLine := by rw [Array.length_toList, it.1]; exact h16
  refine wpAny_bind (wpAny_newList ?_ hzl)
  have hoL : (h'.push (seqObj "list" acc.toList.toArray 0)).get? h'.objs.size = some (seqObj "list" acc.toList.toArray 0) := Heap.get?_push_size _ rfl
  show wpAny _ _ _ _ _ { s with heap := h'.push (seqObj "list" acc.toList.toArray 0), toks := tk }
  have prs : ∀ v ∈ acc.toList, Srt.IsPair h' v (k (backV v)).1 (k (backV v)).2 := fun v hv => by
    rw [ea] at hv
    obtain ⟨b, hb, rfl⟩ := List.mem_map.mp hv
    obtain ⟨t, et, ht⟩ := hk (.ref b) (List.mem_map.mpr ⟨b, hb, rfl⟩)
    cases et
    obtain ⟨_, its2, r2, o2, ho2, hc2, n, hd2⟩ := I1.hok _ _ ht
    obtain ⟨u1, u2, rfl, ri, rj⟩ := vals2 r2
    obtain ⟨t1, rfl⟩ := ri
    obtain ⟨t2, rfl⟩ := rj
    exact ⟨b, o2, t1, t2, n, rfl, ho2, hc2, hd2⟩
  refine wpAny_bind (wpAny_holding (wpAny_call_entry PyProof.Rows.slot_list_sort ⟨_, hoL, rfl⟩ PyProof.Rows.entry_list_sort
    (SrtO.list_sort_ord (SrtO.swo_lex fun u => k (backV u)) hoL hzl (fun h2 => SrtO.pairs_sortableO (by omega) (fun v hm => (prs v hm).keeps fun b o e _ => Heap.get?_push_of_some _ e) fun o e => ?_) fun out g1 g2 => ⟨_, rfl, ?_⟩) (PyProof.Rows.args_list_sort _)))
  · have e' := Option.some.inj (e.symm.trans hoL)
    rw [e']
    intro c
    exact absurd (Value.type.inj c) (by decide)
  · obtain ⟨e', he'⟩ := PyProof.Rows.sortedHeap_at (vs := acc.toList) (out := out.toArray) hoL
    have h3 : ∀ u ∈ out, ∃ a, u = Value.ref a := fun u hu => by
      have := g2.perm.mem_iff.mp hu
      rw [ea] at this
      obtain ⟨b, _, rfl⟩ := List.mem_map.mp this
      exact ⟨b, rfl⟩
    have hb : SrtO.Stb (ltP k) (out.map backV) (bs.map V.ref) := by
      have := SrtO.Stb.map (ltP_swo k) backV g2
      rw [ea, List.map_map] at this
      exact this
    have hz2 : (out.map backV).length ≤ sizeLine := by
      rw [List.length_map, g2.perm.length_eq]
      exact hzl
    refine wpAny_pure ⟨_, rfl, .ref h'.objs.size, upd H h'.objs.size (.lst (out.map backV)), I1.laid (t' := tk) (fun b u e => ?_) (Nat.le_refl _)
      (show ObjOk X.prog X.w _ _ _ (.lst (out.map backV)) from ⟨hz2, out, e', vals_back h3, he'⟩), rfl, q _ _ (SrtO.srtd_map g1) hb (I1.hok.fresh (Nat.le_refl _))⟩
    have hlt : b < h'.objs.size := Heap.lt_size e
    rw [PyProof.Rows.sortedHeap_old (Nat.ne_of_lt hlt) (by rw [size_push']; exact Nat.lt_succ_of_lt hlt)]
    exact Heap.get?_push_of_some _ e
theorem pe_skeys {o : Expr} {to : TE} {p apos cpos pos : Pos} (hc : X.calm = true) (hg : Gl X "sorted") (hm : X.mg "sorted" = none) (ho : PE X o to) (hb : attributeBase o "keys" X.env (eval o X.env) = eval o X.env) (hl : (apos.endLine == cpos.line) = true) :
    PE X (.Call (.Name "sorted" p) [.Call (.Attribute o "keys" apos) [] [] cpos] [] pos) (tSortKeys to) := by
  refine ⟨fun pins s σ H Q I h => ?_⟩
  refine wpAny_Call_Name_kw (ld_blt I hg hm (by decide +kernel : bootBuiltins "sorted" = some (.builtin "sorted")) ?_)
  refine Calls.callWith_builtin rfl (Calls.evalArgs_plain (Calls.spliced_cons ?_))
  refine wpAny_Call_method hb rfl hl PySem.F.plainAttrs_dict PySem.F.slot_dict_keys PySem.F.type_dict_keys (thn (ho.run pins s σ H _ I h) fun u s1 hx => ?_)
  obtain ⟨x, H1, I1, rx, d, kvs, ex, hd, q⟩ := hx
  subst ex
  obtain rfl : u = Value.ref d := rx
  have T := isD_at I1 (.inr ⟨kvs, hd⟩)
  refine ⟨T.1, T.2.1, ?_⟩
  obtain ⟨_, _, ks, pr, o', es, ep, ho', hx', hdt, _⟩ := (show ObjOk X.prog X.w H1 s1.heap d (.dT kvs) from hd.ok I1.hok)
  have I2 : Inv X pins σ H1 { s1 with heap := s1.heap.push { cls := .type "dict_keys", data := .fields #[.ref d] } } := I1.kept (t' := s1.toks) fun b ob q => Heap.get?_push_of_some _ q
  refine method_meetsIn PySem.F.slot_dict_keys PySem.F.entry_dict_keys rfl (PySem.evalArgs_none ⟨rfl, T.1, PySem.F.args_dict_keys_1 _, _, PySem.meets_dict_keys_raw d T.2.2, ⟨es, ep, o', ho', hx', hdt⟩, ?_⟩)
  exact Calls.spliced_nil (sort_keys hc I2 hd ⟨_, Heap.get?_push_size _ rfl, rfl, rfl⟩ q)
theorem vals_each : ∀ {xs : List V} {us : List Value}, xs.length = us.length → (∀ (j : Nat) (x : V) (u : Value), xs[j]? = some x → us[j]? = some u → RelV x u) → Vals xs us
  | [], [], _, _ => .nil
  | [], _ :: _, h, _ => nomatch h
  | _ :: _, [], h, _ => nomatch h
  | x :: xs, u :: us, h, k => .cons (k 0 x u rfl rfl) (vals_each (by simpa using h) fun j y v h1 h2 => k (j + 1) y v (by simpa using h1) (by simpa using h2))
/-- list(text) -/
theorem call_listS {X : Cx} (hc : X.calm = true) : CallR X (.type "list") (fun xs H Q => ∃ z : Str, xs = [.str z] ∧ z.length ≤ sizeLine ∧ ∀ p, H p = none → Q (.ref p) (upd H p (.lst (z.cps.toList.map fun c => V.str ⟨#[c]⟩)))) := by
  intro pins s σ H xs us Q I r h
  obtain ⟨z, rfl, hz, q⟩ := h
  obtain ⟨u, rfl, rx⟩ := r.one
  obtain ⟨t, rfl⟩ := rx
  have hz2 : z.cps.size ≤ sizeLine := hz
  refine call_list_str (I.ok.hd hc) z t (fun h' tk acc' c' kp e it => ?_) hz2
  have rv : Vals (z.cps.toList.map fun c => V.str ⟨#[c]⟩) acc'.toList := by
    refine vals_each (by rw [List.length_map, Array.length_toList, Array.length_toList, it.1]) fun j y v h1 h2 => ?_
    obtain ⟨c, u, g1, g2⟩ := it.2 j v (by rw [← Array.getElem?_toList]; exact h2)
    rw [List.getElem?_map, Array.getElem?_toList, g1] at h1
    cases h1
    exact ⟨u, g2⟩
  refine ⟨.ref s.heap.objs.size, _, I.laid (t' := tk) (o := .lst (z.cps.toList.map fun c => V.str ⟨#[c]⟩)) kp (Nat.le_refl _) ?_, rfl, q _ (I.hok.fresh (Nat.le_refl _))⟩
  exact ⟨by rw [List.length_map, Array.length_toList]; exact hz2, acc'.toList, c', rv, by rw [Array.toArray_toList]; exact e⟩
end
end PX
namespace PySem.SeqAt
open AutoSeq1 (wpAny_loadPart')
open MeetsSeq MeetsSeq2 MeetsSeq3 SeqRoads2
section
variable {prog : Program} {w : World}
theorem px_list_ne (l b : Addr) (items items2 : Array Value) (n n2 : Nat) (dd dd2 : Option Addr) (sl sl2 : Array (Option Value)) (hsz : items.size ≠ items2.size) :
    MeetsIn prog w (Builtin.«list.__eq__» ⟨[.ref l, .ref b], []⟩)
      (fun A R s => s.heap.get? l = some { cls := .type "list", dict := dd, data := .seq items n, slots := sl } ∧ s.heap.get? b = some { cls := .type "list", dict := dd2, data := .seq items2 n2, slots := sl2 } ∧ R (.ok (.ret (.bool false))) s) := by
  intro A R s h
  obtain ⟨hp, g, d, tk, os⟩ := s; obtain ⟨hl, hb, h⟩ := h
  have f3 := AutoSeq1.sub_list_list
  have hne : (items.size != items2.size) = true := by simpa using hsz
  wp_walk using wpAny_loadPart' hl, wpAny_loadPart' hb
  exact h
theorem px_ne_len {A : Around} {s : Shared} {l b : Addr} {items items2 : Array Value} (hl : s.heap.IsList l items) (hb : s.heap.IsList b items2) (hsz : items.size ≠ items2.size) (hu : A.units < cLine) (E Q : Value → Shared → Prop) (h : Q (.bool false) s) : wpAny (model prog w) A (richCompare .Eq (.ref l) (.ref b)) Q E s := by
  obtain ⟨⟨cls, dd, data, sl⟩, ho, hc, n, hd⟩ := id hl
  obtain ⟨⟨cls2, dd2, data2, sl2⟩, ho2, hc2, n2, hd2⟩ := id hb
  simp only at hc hd hc2 hd2
  subst hc hd hc2 hd2
  have ta : s.TypeIs (.ref l) "list" := ⟨_, ho, rfl⟩
  have tb : s.TypeIs (.ref b) "list" := ⟨_, ho2, rfl⟩
  exact wpAny_richCompare_same_room (op := .Eq) ta tb F.slot_list_eq (call_meetsIn F.slot_list_eq ta F.entry_list_eq (F.args_list_eq_2 _ _) (px_list_ne l b items items2 n n2 dd dd2 sl sl2 hsz)
    ⟨ho, ho2, show Value.bool false ≠ Value.notImplemented ∧ Q (.bool false) s from ⟨(fun x => nomatch x), h⟩⟩) hu
end
end PySem.SeqAt
namespace PX
open PySem PySem.Spec PyProof.Rows L2
/-- lists of unlike lengths -/
def rEqLen (K : PySem.W.Frag) : R2 := fun x y H Q => ∃ a b xs ys, x = .ref a ∧ y = .ref b ∧ SqL K H a xs ∧ SqL K H b ys ∧ xs.length ≠ ys.length ∧ Q (.bl false) H
theorem op_eqLen {X : Cx} (hu : X.A.units + 1 < cLine) : OpR X (compareOp .Eq) (rEqLen X.K) := by
  intro pins s σ H x y v u Q I rx ry h
  obtain ⟨a, b, xs, ys, rfl, rfl, h1, h2, hl, q⟩ := h
  obtain rfl : v = Value.ref a := rx
  obtain rfl : u = Value.ref b := ry
  obtain ⟨its, rv, l1, _⟩ := I.list h1
  obtain ⟨its2, rv2, l2, _⟩ := I.list h2
  refine SeqAt.px_ne_len l1.isList l2.isList ?_ (by omega) _ _ ⟨.bl false, H, I, rfl, q⟩
  simpa [← rv.length, ← rv2.length] using hl
end PX

/-! PX, part z: what runs while an exception is handled. -/
namespace PX
open PySem PySem.Spec PyProof.Rows L2 HotX

section
variable {prog : Program} {w : World} {A : Around} {E : Value → Shared → Prop} {s : Shared}
theorem hot_on {x1 : Addr} {h h' : Heap} (hot : HotAt A x1 h) (k : ∀ o, h.get? x1 = some o → h'.get? x1 = some o) : HotAt A x1 h' := by
  obtain ⟨e1, o, vs, e2, e3, e4⟩ := hot
  exact ⟨e1, o, vs, k o e2, e3, e4⟩
theorem twice {h : Heap} {a b : Obj} {p : Addr} {o : Obj} (e : h.get? p = some o) : ((h.push a).push b).get? p = some o := Heap.get?_push_of_some _ (Heap.get?_push_of_some _ e)
/-- StopIteration is made and let out: objects come, none is changed -/
theorem stop_hot {α : Type} {x1 : Addr} {Q : α → Shared → Prop} (hot : HotAt A x1 s.heap) (hE : ∀ e h', (∀ b o, s.heap.get? b = some o → h'.get? b = some o) → ({ s with heap := h' } : Shared).TypeIs (.ref e) "StopIteration" → E (.ref e) { s with heap := h' }) :
    wpAny (model prog w) A (newExc (.type "StopIteration") [] >>= fun e => (raiseNew e : Sem α)) Q E s := by
  obtain ⟨hh, o1, vs1, h1, d1, c1⟩ := hot
  refine wpAny_bind ?_
  simp only [newExc, newTuple]
  refine wpAny_bind (wpAny_newObj_type ?_ (by size_fits))
  refine wpAny_bind (m := firstArgMember _ _) (wpAny_of_eq (a := Value.none) (by first | rfl | (simp only [firstArgMember]; rfl)) ?_)
  refine wpAny_newObj_type ?_ (by size_fits)
  refine raiseNew_hot ⟨hh, o1, vs1, twice h1, d1, c1⟩ (Nat.ne_of_lt (Heap.lt_size (Heap.get?_push_of_some _ h1))) (Heap.get?_push_size _ rfl) rfl (by first | (simp; done) | (simp; omega) | (simp only [Array.size_append]; simp; omega)) ?_
  refine hE _ _ (fun b o e => ?_) ⟨_, Heap.get?_update_self _ (Heap.get?_push_size _ rfl) rfl, rfl⟩
  rw [Heap.get?_update_other _ _ (Nat.ne_of_gt (Heap.lt_size (Heap.get?_push_of_some _ e)))]
  exact twice e
/-- a list's walk ends -/
theorem lst_end {it l x1 : Addr} {i : Nat} {items : Array Value} {Q : Option Value → Shared → Prop} (hot : HotAt A x1 s.heap) (off : x1 ≠ it) (at_ : s.heap.IsListIter it l i) (is : s.heap.IsList l items) (no : items[i]? = none)
    (q : ∀ h', Heap.ExtBut it s.heap h' → Q none { s with heap := h' }) : wpAny (model prog w) A (pyNext (.ref it)) Q E s := by
  obtain ⟨oi, gi, ci, di⟩ := id at_
  obtain ⟨ol, gl, _, nl, dl⟩ := is
  unfold pyNext
  refine wpAny_bind (wpAny_attempt (wpAny_callSpecial?_slot (name := Str.ofString "__next__") at_.typeIs slot_listiter_next (wpAny_call_entry slot_listiter_next at_.typeIs entry_listiter_next ?_ (args_listiter_next _))))
  show wpAny _ _ (do let l ← field (.ref it) 0; _) _ _ s
  refine wpAny_bind (wpAny_field gi di (x := .ref l) rfl ?_)
  show wpAny _ _ (if (Value.ref l == Value.none) = true then _ else _) _ _ _
  have nn : ¬ ((Value.ref l == Value.none) = true) := Bool.false_ne_true
  rw [if_neg nn]
  show wpAny _ _ (do let k ← field (.ref it) 1; _) _ _ s
  refine wpAny_bind (wpAny_field gi di (x := .int i 0) rfl ?_)
  show wpAny _ _ (do let its ← seqItems? (.ref l); _) _ _ s
  refine wpAny_bind (wpAny_seqItems gl dl ?_)
  simp only [Int.toNat_natCast, no]
  refine wpAny_bind (wpAny_rule (wpAny_bind (wpAny_setField gi di (by simp) ?_)))
  show wpAny _ _ (newExc (.type "StopIteration") [] >>= _) _ _ _
  refine stop_hot (x1 := x1) ?_ fun e h' kp ty => ?_
  · exact hot_on (A := A.in1) hot fun o e => (Heap.get?_update_other _ _ (Ne.symm off)).trans e
  refine wpAny_bind (wpAny_isInstance (T := "StopIteration") (b := true) ty isSubtype_stop ?_)
  exact wpAny_pure (q h' fun b o hb e => kp b o ((Heap.get?_update_other _ _ (Ne.symm hb)).trans e))
/-- a tuple's walk ends -/
theorem tup_end {it l x1 : Addr} {i : Nat} {items : Array Value} {Q : Option Value → Shared → Prop} (hot : HotAt A x1 s.heap) (off : x1 ≠ it) (at_ : IsTupIter s.heap it l i) (is : IsTup s.heap l items) (no : items[i]? = none)
    (q : ∀ h', Heap.ExtBut it s.heap h' → Q none { s with heap := h' }) : wpAny (model prog w) A (pyNext (.ref it)) Q E s := by
  obtain ⟨oi, gi, ci, di⟩ := id at_
  obtain ⟨ol, gl, _, nl, dl⟩ := is
  unfold pyNext
  refine wpAny_bind (wpAny_attempt (wpAny_callSpecial?_slot (name := Str.ofString "__next__") at_.typeIs slot_tupleiter_next (wpAny_call_entry slot_tupleiter_next at_.typeIs entry_tupleiter_next ?_ (args_tupleiter_next _))))
  show wpAny _ _ (do let l ← field (.ref it) 0; _) _ _ s
  refine wpAny_bind (wpAny_field gi di (x := .ref l) rfl ?_)
  show wpAny _ _ (if (Value.ref l == Value.none) = true then _ else _) _ _ _
  have nn : ¬ ((Value.ref l == Value.none) = true) := Bool.false_ne_true
  rw [if_neg nn]
  show wpAny _ _ (do let k ← field (.ref it) 1; _) _ _ s
  refine wpAny_bind (wpAny_field gi di (x := .int i 0) rfl ?_)
  show wpAny _ _ (do let its ← seqItems? (.ref l); _) _ _ s
  refine wpAny_bind (wpAny_seqItems gl dl ?_)
  simp only [Int.toNat_natCast, no]
  refine wpAny_bind (wpAny_rule (wpAny_bind (wpAny_setField gi di (by simp) ?_)))
  show wpAny _ _ (newExc (.type "StopIteration") [] >>= _) _ _ _
  refine stop_hot (x1 := x1) ?_ fun e h' kp ty => ?_
  · exact hot_on (A := A.in1) hot fun o e => (Heap.get?_update_other _ _ (Ne.symm off)).trans e
  refine wpAny_bind (wpAny_isInstance (T := "StopIteration") (b := true) ty isSubtype_stop ?_)
  exact wpAny_pure (q h' fun b o hb e => kp b o ((Heap.get?_update_other _ _ (Ne.symm hb)).trans e))
/-- a tuple is taken apart -/
theorem unpack_hot {t x1 : Addr} {items : Array Value} {tgs : List (Bool × (Value → Sem Unit))} {Q : Unit → Shared → Prop} (hot : HotAt A x1 s.heap) (ht : IsTup s.heap t items) (hn : tgs.length = items.size) (hst : tgs.findIdx? (·.1) = none)
    (q : ∀ h', Heap.ExtBut s.heap.objs.size s.heap h' → wpAny (model prog w) A (assignInOrder (tgs.map (·.2)) items.toList) Q E { s with heap := h' }) : wpAny (model prog w) A (unpack (.ref t) tgs) Q E s := by
  have off1 : x1 ≠ s.heap.objs.size := by
    obtain ⟨_, o, _, e, _⟩ := hot
    exact Nat.ne_of_lt (Heap.lt_size e)
  have off2 : t ≠ s.heap.objs.size := by
    obtain ⟨o, e, _⟩ := ht
    exact Nat.ne_of_lt (Heap.lt_size e)
  unfold unpack
  rw [hn, hst]
  refine wpAny_bind (wpAny_holding ?_)
  unfold unpackItems
  refine wpAny_bind ?_
  unfold notIterableAtAll
  refine wpAny_bind (wpAny_specialOf ht.typeIs slot_tuple_iter.lookup (wpAny_pure ?_))
  simp only [Bool.false_eq_true, if_false]
  refine wpAny_bind (wpAny_holding (iter_tuple ht (wpAny_bind (wpAny_holding (draw_tuple off2 items.size 0 _ _ ⟨_, Heap.get?_push_size _ rfl, rfl, rfl⟩ (ht.push _) (by omega) fun h1 it1 sb1 => ?_)))))
  have all : (items.toList.drop 0).take items.size = items.toList := List.take_of_length_le (by simp)
  rw [all, if_neg (by simp)]
  refine wpAny_bind (wpAny_holding (tup_end (hot_on hot fun o e => (sb1.2 _ off1).trans (Heap.get?_push_of_some _ e)) off1 it1 ((ht.push _).extBut sb1.extBut off2) (by simp) fun h2 x2 => ?_))
  simp only [Option.isSome_none, Bool.false_eq_true, if_false]
  exact wpAny_pure (q h2 fun b o hb e => x2 b o hb (sb1.extBut b o hb (Heap.get?_push_of_some _ e)))
end

/-! ### the context -/
/-- the exception that is handled: its object stands, out of all reach, its context is None -/
structure HotQ (X : Cx) (x1 : Addr) (oe : Obj) : Prop where
  hd : X.A.handled = some (.ref x1)
  ob : ∃ vs : Array Value, oe.data = .fields vs ∧ vs[2]? = some .none
  get : ∀ {pins : List (Addr × Obj)} {σ : L2.St} {H : Hp} {s : Shared}, Inv X pins σ H s → s.heap.get? x1 = some oe ∧ H x1 = none ∧ x1 ∉ frs X.stack
  off : ∀ {pins : List (Addr × Obj)} {σ : L2.St} {H : Hp} {s : Shared} {b : Addr}, Inv X pins σ H s → FpOk X pins H b → x1 ≠ b
section
variable {X : Cx} {x1 : Addr} {oe : Obj} {pins : List (Addr × Obj)} {σ : L2.St} {H : Hp} {s : Shared}
theorem HotQ.hot (z : HotQ X x1 oe) (I : Inv X pins σ H s) : HotAt X.A x1 s.heap := by
  obtain ⟨vs, e2, e3⟩ := z.ob
  exact ⟨z.hd, oe, vs, (z.get I).1, e2, e3⟩
theorem HotQ.pn (hd : X.A.handled = some (.ref x1)) (ob : ∃ vs : Array Value, oe.data = .fields vs ∧ vs[2]? = some .none) (m : (x1, oe) ∈ X.pn) : HotQ X x1 oe where
  hd := hd
  ob := ob
  get := fun {pins σ H s} I => by
    obtain ⟨k1, k2, k3, k4, _⟩ := I.pin (x1, oe) (List.mem_append_left _ m)
    refine ⟨k1, k2, fun h => ?_⟩
    rcases List.mem_cons.mp (I.stkSub x1 h) with e | e
    · exact k3 e
    · exact k4 e
  off := fun _ f => f.2.2.2.2.2 (x1, oe) (List.mem_append_left _ m)
/-- the context of a block within -/
theorem HotQ.blk (z : HotQ X x1 oe) (I : Inv X pins σ H s) {scope : Scope} {cenv : Env} {fp : List Addr} (off : ∀ b ∈ fp, x1 ≠ b) : HotQ (X.blk s H scope cenv fp) x1 oe := by
  obtain ⟨g1, g2, g3⟩ := z.get I
  have nx : x1 ∉ fp := fun h => off x1 h rfl
  refine ⟨z.hd, z.ob, fun {pins' σ' H' s'} J => ⟨J.base.keep x1 oe g1 g2 g3 nx, J.base.free x1 oe g1 g2 nx, g3⟩, fun {pins' σ' H' s' b} J f e => ?_⟩
  rcases f.2.2.2.1 with h | h
  · exact off b h e
  · have h : s.heap.objs.size ≤ b := h
    have l := Heap.lt_size g1
    rw [e] at l
    exact absurd (Nat.lt_of_lt_of_le l h) (Nat.lt_irrefl _)
theorem pg_tupH {es : List Expr} {k n : Nat} {t : TGs} {pos : Pos} (z : HotQ X x1 oe) (h : PGs X es t) (hn : (assignEach es X.env).length = n) (hst : (assignEach es X.env).findIdx? (·.1) = none) : PG X (.Tuple es k pos) (gTup X.K n t) := by
  refine ⟨fun pins s σ H v u Q I r q => ?_⟩
  obtain ⟨a, xs, rfl, hx, hl, q⟩ := q
  obtain rfl : u = Value.ref a := r
  obtain ⟨its, rv, ht, _⟩ := I.tuple hx
  rw [assign_Tuple]
  refine wpAny_bind (wpAny_standAt (unpack_hot (z.hot I) ht (by simp [hn, ← hl, rv.length]) hst fun h2 e2 => ?_))
  have I2 : Inv X pins σ H { s with heap := h2 } := I.kept (t' := s.toks) fun b o e => e2 b o (Nat.ne_of_lt (Heap.lt_size e)) e
  exact h.run pins _ σ H xs _ Q I2 (by simpa using rv) q
/-- [e for t in a list if ..] while an exception is handled -/
theorem pe_lcH {elt tg iter : Expr} {ifs : List Expr} {scope : Scope} {own : List (Str × Nat)} {pos : Pos} {tl : TE} {g : TG} {tt : TT} {te : TE} (z : HotQ X x1 oe) (hN : X.N.Nodup) (hl : PE X iter tl) (ok : BlkOk X.N X.env.scope scope own)
    (hg : ∀ (s : Shared) (H : Hp) (C : Addr) (cl : List (Str × Addr)) (fp : List Addr), HotQ (X.blk s H scope (compEnvC scope cl C X.env) fp) x1 oe → PG (X.blk s H scope (compEnvC scope cl C X.env) fp) tg g)
    (ht : ∀ (s : Shared) (H : Hp) (C : Addr) (cl : List (Str × Addr)) (fp : List Addr), HotQ (X.blk s H scope (compEnvC scope cl C X.env) fp) x1 oe → PTs (X.blk s H scope (compEnvC scope cl C X.env) fp) ifs tt)
    (he : ∀ (s : Shared) (H : Hp) (C : Addr) (cl : List (Str × Addr)) (fp : List Addr), HotQ (X.blk s H scope (compEnvC scope cl C X.env) fp) x1 oe → PE (X.blk s H scope (compEnvC scope cl C X.env) fp) elt te) (hs : ∀ x, foldedSetIterable iter X.env x = pure x) :
    PE X (.ListComp elt [⟨tg, iter, ifs, 0⟩] scope pos) (tLc (iList X.K tl) g tt te (own.map (·.2))) := by
  refine ⟨fun pins s σ H Q I h => ?_⟩
  rw [eval_ListComp]
  have free : ∀ y ∈ scope.names, y.2 = .free → ∃ c, X.env.cells.lookup y.1 = some c := fun y hy e => I.ok.has _ (ok.free y hy e)
  refine wpAny_comprehension_free (use := none) rfl hs (closure_ok free) ok.kind (fun y hy e => by rw [ok.uniq y hy, e]) (thn (hl.run pins s σ H _ I h) fun u s1 hu => ?_)
  obtain ⟨xv, H2, I1, ru, a, ea, ⟨xs, hq⟩, q⟩ := hu
  subst ea
  obtain rfl : u = Value.ref a := ru
  obtain ⟨its, rv, pl, _⟩ := I1.list hq
  refine wpAny_pyIter_list pl.isList ?_
  -- the iterator
  generalize hit : s1.heap.objs.size = it
  generalize hs2 : ({ s1 with heap := s1.heap.push { cls := .type "list_iterator", data := .fields #[.ref a, .int 0 0] } } : Shared) = s2
  have k12 : ∀ b o, s1.heap.get? b = some o → s2.heap.get? b = some o := fun b o e => by
    rw [← hs2]
    exact Heap.get?_push_of_some _ e
  have I2 : Inv X pins σ H2 s2 := by
    rw [← hs2]
    exact I1.kept (t' := s1.toks) fun b o e => Heap.get?_push_of_some _ e
  have st2 : s2.heap.IsListIter it a 0 := by
    rw [← hs2, ← hit]
    exact ⟨_, Heap.get?_push_size _ rfl, rfl, rfl⟩
  have f2 : FpOk X pins H2 it := by
    rw [← hit]
    exact I1.fpOk (Nat.le_refl _) (I1.hok.fresh (Nat.le_refl _))
  have lt2 : it < s2.heap.objs.size := by
    obtain ⟨o, e, _⟩ := id st2
    exact Heap.lt_size e
  refine wpAny_newObj_type (newEnv_comp ?_) (by show 0 ≤ sizeLine; decide)
  -- the new list
  generalize hD : s2.heap.objs.size = D
  have newD : H2 D = none := I2.hok.fresh (Nat.le_of_eq hD)
  obtain ⟨W, ⟨m0, w0⟩, turn⟩ := q D newD
  generalize hs3 : ({ s2 with heap := s2.heap.push { cls := .type "list", data := .seq ([] : List Value).toArray } } : Shared) = s3
  have I3 : Inv X pins σ (upd H2 D (.lst [])) s3 := by
    rw [← hs3]
    refine I2.laid (t' := s2.toks) (fun b o e => Heap.get?_push_of_some _ e) (Nat.le_of_eq hD) ⟨Nat.zero_le _, [], 0, .nil, ?_⟩
    rw [← hD]
    exact Heap.get?_push_size _ rfl
  have k23 : ∀ b o, s2.heap.get? b = some o → s3.heap.get? b = some o := fun b o e => by
    rw [← hs3]
    exact Heap.get?_push_of_some _ e
  have lt3 : it < s3.heap.objs.size := by
    obtain ⟨o, e, _⟩ := id st2
    exact Heap.lt_size (k23 _ _ e)
  have f3 : FpOk X pins (upd H2 D (.lst [])) it := ⟨by
    rw [upd_ne (by rw [← hD]; exact Nat.ne_of_lt lt2)]
    exact f2.1, f2.2⟩
  have f3s : ∀ b ∈ [it], FpOk X pins (upd H2 D (.lst [])) b ∧ b < s3.heap.objs.size := fun b hb => by
    rw [List.mem_singleton.mp hb]
    exact ⟨f3, lt3⟩
  have st3 : s3.heap.IsListIter it a 0 := by
    obtain ⟨o, e, c⟩ := id st2
    exact ⟨o, k23 _ _ e, c⟩
  generalize hH3 : upd H2 D (.lst []) = H3 at I3 f3 f3s w0
  have I4 := block_start I3 ok hN f3s
  have zb := fun cenv => z.blk (scope := scope) (cenv := cenv) (fp := [it]) I3 (fun b hb => z.off I3 (by rw [List.mem_singleton.mp hb]; exact f3))
  generalize hC : s3.heap.objs.size = C at I4
  generalize hcl : cellsFrom (C + 1) scope.names (cloFrom X.env.cells scope.names []) = cl at I4
  have pg := hg s3 H3 C cl [it] (zb _)
  have pt := ht s3 H3 C cl [it] (zb _)
  have pe := he s3 H3 C cl [it] (zb _)
  have zb := zb (compEnvC scope cl C X.env)
  show codeAny _ _ (.compStart (.ListComp elt [⟨tg, iter, ifs, 0⟩] scope pos) 0 (.ref it) (.ref D) (compEnvC scope cl C X.env)) (compPost (model X.prog X.w) X.A X.xe none (EP X pins σ Q) (.ref D) C) { s3 with heap := pushCells (s3.heap.push { cls := .type "dict", data := .dict #[] }) scope.names }
  generalize hce : compEnvC scope cl C X.env = ce at I4 pg pt pe zb ⊢
  have cL : ce.locals = C := by rw [← hce]; rfl
  generalize hs4 : ({ s3 with heap := pushCells (s3.heap.push { cls := .type "dict", data := .dict #[] }) scope.names } : Shared) = s4 at I4 ⊢
  have st4 : s4.heap.IsListIter it a 0 := by
    obtain ⟨o, e, c⟩ := id st3
    exact ⟨o, by rw [← hs4]; exact pushCells_keeps _ _ _ _ (Heap.get?_push_of_some _ e), c⟩
  have fpB : ∀ {σ' : L2.St} {H' : Hp} {s' : Shared}, Inv (X.blk s3 H3 scope ce [it]) [] σ' H' s' → H' it = none → FpOk (X.blk s3 H3 scope ce [it]) [] H' it := fun {σ' H' s'} J n => by
    have m : it ∈ (X.blk s3 H3 scope ce [it]).ex := List.mem_singleton.mpr rfl
    exact ⟨n, (J.ok.exf it m).1, J.ok.exfs it m, .inl m, fun x c e => (J.ok.exf it m).2 x c e, fun p hp => absurd (show p ∈ ([] : List (Addr × Obj)) ++ [] from hp) (by simp)⟩
  have loop : codeAny (model X.prog X.w) X.A (.compLoop (.ListComp elt [⟨tg, iter, ifs, 0⟩] scope pos) 0 (.ref it) (.ref D) ce) (compPost (model X.prog X.w) X.A X.xe none (EP X pins σ Q) (.ref D) C) s4 := by
    refine compLoop_any (fun n s' => ∃ i H', Inv (X.blk s3 H3 scope ce [it]) [] (wipe σ (own.map (·.2))) H' s' ∧ s'.heap.IsListIter it a i ∧ H' it = none ∧ W i n H') ?_ m0 ⟨0, H3, I4, st4, f3.1, w0⟩
    rintro n s5 ⟨i, H5, I5, st5, n5, w5⟩
    have f5 := fpB I5 n5
    rcases turn i n H5 w5 with ⟨⟨ys, hy, hge⟩, fin⟩ | ⟨⟨ys, y, hy, hgt⟩, Nx, hNx, step⟩
    · obtain ⟨its5, rv5, pl5, _⟩ := I5.list hy
      have len5 := rv5.length
      refine lst_end (zb.hot I5) (zb.off I5 f5) st5 pl5.isList (by simp; omega) fun h6 x6 => ?_
      have I6 : Inv (X.blk s3 H3 scope ce [it]) [] (wipe σ (own.map (·.2))) H5 { s5 with heap := h6 } := I5.turned (t' := s5.toks) (fun b o hb e => x6 b o hb e) f5.1 f5.2.1 f5.2.2.2.1 f5.2.2.2.2.1 f5.2.2.2.2.2
      have I7 : Inv X pins σ H5 { s5 with heap := h6 } := I3.call' (ch := [it]) I6.os I6.base I6.hok I6.bare fun b hb => ⟨(f3s b hb).1.2.2.2.1, (f3s b hb).1.2.1, (f3s b hb).1.2.2.2.2.1, (f3s b hb).1.2.2.2.2.2⟩
      have nC : H5 C = none := by
        have e : H5 ce.locals = none := I6.free
        rw [cL] at e
        exact e
      obtain ⟨m, hn, _⟩ := I6.loc
      have hn : h6.Ns ce.locals m := hn
      rw [cL] at hn
      have fC : FpOk X pins H5 C := I3.fpOk (Nat.le_of_eq hC) nC
      obtain ⟨c0, c1, c2, c3, c4, c5⟩ := fC
      exact ⟨m, hn, fun h8 sb8 => ⟨.ref D, H5, I7.turned (t' := s5.toks) (fun b o hb e => (sb8.2 b hb).trans e) c0 c1 c3 c4 c5, rfl, fin⟩⟩
    · obtain ⟨its5, rv5, pl5, _⟩ := I5.list hy
      obtain ⟨u, hu, ru⟩ := rv5.get hgt
      refine wpAny_pyNext_list_item st5 pl5.isList (x := u) (by simpa using hu) fun h6 st6 sb6 => ?_
      have I6 : Inv (X.blk s3 H3 scope ce [it]) [] (wipe σ (own.map (·.2))) H5 { s5 with heap := h6 } := I5.turned (t' := s5.toks) (fun b o hb e => (sb6.2 b hb).trans e) f5.1 f5.2.1 f5.2.2.2.1 f5.2.2.2.2.1 f5.2.2.2.2.2
      obtain ⟨oi, ei, ci, di⟩ := id st6
      have y6 : (Itl X.K a).yld i H5 y H5 := ⟨rfl, fun zs hz => by rw [I5.list_inj hz hy]; exact hgt⟩
      refine go_of (s := { s5 with heap := h6 }) ei ci di (by decide) ?_
      have P : ∀ b ∈ [it], FpOk (X.blk s3 H3 scope ce [it]) [] H5 b := fun b hb => by
        rw [List.mem_singleton.mp hb]
        exact f5
      have I6' := I6.pinned (fp := [it]) P fun b hb => by
        rw [List.mem_singleton.mp hb]
        exact ⟨oi, ei, fun v e => by rw [di] at e; cases e⟩
      refine thnF (pg.run _ { s5 with heap := h6 } _ H5 y u _ I6' ru (step y H5 y6)) fun _ s8 ⟨σ8, H8, I8, e8, q8⟩ => ?_
      refine thnF (pt.run _ s8 σ8 H8 _ I8 q8) fun b s9 ⟨H9, I9, q9⟩ => ?_
      have again : ∀ {s' : Shared} {H' : Hp}, Inv (X.blk s3 H3 scope ce [it]) ([] ++ pinsAt [it] h6) σ8 H' s' → Nx H' → ∃ m, m < n ∧ ∃ i H', Inv (X.blk s3 H3 scope ce [it]) [] (wipe σ (own.map (·.2))) H' s' ∧ s'.heap.IsListIter it a i ∧ H' it = none ∧ W i m H' := fun {s' H'} J nx => by
        obtain ⟨m', hm, w'⟩ := hNx H' nx
        have pn := J.pin (it, oi) (List.mem_append_right _ (List.mem_append_right _ (mem_pinsAt (List.mem_singleton.mpr rfl) ei)))
        refine ⟨m', hm, i + 1, H', (J.unpinned (pins := [])).weak (by rw [← e8, wipe_length]) (fun j v e => ?_), ⟨oi, pn.1, ci, di⟩, pn.2.1, w'⟩
        rw [← e8] at e
        exact (wipe_some e).1
      cases b with
      | false =>
        simp only [Bool.false_eq_true, if_false] at q9 ⊢
        exact again I9 q9
      | true =>
        simp only [if_true] at q9 ⊢
        refine thnF (pe.run _ s9 σ8 H9 _ I9 q9) fun v s10 ⟨yv, H10, I10, r10, acc, hD10, hz10, nx⟩ => ?_
        exact app_ok (X := X.blk s3 H3 scope ce [it]) I10 hD10 hz10 r10 fun s11 I11 => again I11 nx
  exact codeAny_compStart_list loop (wpAny_pyIter_listiter st4 loop)
/-! ### isinstance of it, calls -/
def rIsQ (X : Cx) : List V → Hp → VK → Prop := fun xs H Q => ∃ (x1 : Addr) (oe : Obj) (C : Addr) (c : V) (cv : Value) (b : Bool), HotQ X x1 oe ∧ ExcC X.K C ∧ Zc (.ref C) none oe ∧ xs = [.ref x1, c] ∧ (∀ u, RelV c u → u = cv) ∧ PySem.W.kitOne X.K (.ref C) cv = some b ∧ Q (.bl b) H
theorem call_isQ : CallR X (.builtin "isinstance") (rIsQ X) := by
  intro pins s σ H xs us Q I r q
  obtain ⟨x1, oe, C, c, cv, b, z, ec, zc, rfl, hc, e, q⟩ := q
  cases r with
  | cons r1 rs =>
    cases rs with
    | cons r2 rs =>
      cases rs
      cases r1
      obtain rfl := hc _ r2
      have J : PySem.W.InstAt s.heap x1 oe C none := by
        obtain ⟨vs, hv, _⟩ := z.ob
        have g := (z.get I).1
        obtain ⟨o1, o2, o3, o4⟩ := oe
        obtain ⟨e1, e2⟩ := zc
        dsimp only at e1 e2 hv
        subst e1 e2 hv
        exact ⟨g, rfl, rfl, trivial⟩
      exact PySem.W.kia_one (PySem.W.handS_kitx_exc ec.hg ec.hk ec.hs ec.hd ec.ha ec.hn ec.ht ec.hm) I.kIn J e (fun z => nomatch z) fun tk => ⟨.bl b, H, I.kept (t' := tk) fun _ _ z => z, rfl, q⟩
/-- what a def promises while the exception x1 is handled, its object as Z has it -/
structure FnP (P : Program) (w : World) (K : PySem.W.Frag) (mg : Str → Option Value) (base : Heap) (k : Nat) (f : Addr) (fd : FuncData) (ps : List Str) (x1 : Addr) (Z : Obj → Prop) (sp : Sp) : Prop where
  len : ∀ vs H Q E, sp vs H Q E → vs.length = ps.length
  run : ∀ (A : Around) (outer : List Env) (s : Shared) (H : Hp) (args : Args) (us : List Value) (vs : List V) (Q : VK) (E : XK) (oe : Obj), L2H.RoomH k A → A.handled = some (.ref x1) → (∃ vs : Array Value, oe.data = .fields vs ∧ vs[2]? = some .none) → Z oe → L2H.PinOk outer H s (x1, oe) →
    Env0 P w K mg base A outer s H → BindsTo s fd args (ps.zip us) → Vals vs us → sp vs H Q E → codeAny (model P w) A (.call (.ref f) args) (CR (L2N.CX P w) outer P w H s Q E) s
/-- a call of it, an exception handled -/
theorem pe_callP {k : Nat} {f : Addr} {fd : FuncData} {ps : List Str} {Z : Obj → Prop} {sp : Sp} {E : L2.St → XK} {x : Str} {q pos : Pos} {e : Expr} {es : List Expr} {t : TA} (F : FnP X.prog X.w X.K X.mg X.base k f fd ps x1 Z sp) (hr : L2H.RoomH k X.A) (z : HotQ X x1 oe) (hz : Z oe) (hg : Gl X x)
    (hm : X.mg x = some (.ref f)) (kp : PySem.W.keepIn X.K (.ref f) = true) (hb : Binds X.K fd ps []) (hx : ∀ σ, PassesAt (L2N.CX X.prog X.w) X σ (E σ)) (ha : PA X (e :: es) t) (hdb : (x == ("__debug__" : Str)) = false)
    (he : starEach (e :: es) X.env = (false, eval e X.env) :: starEach es X.env) (hpl : (backTo pos (starEach es X.env)).any (·.1) = false) : PE X (.Call (.Name x q) (e :: es) [] pos) (tCallS sp E t) := by
  refine ⟨fun pins s σ H Q I h => wpAny_Call_Name_kw (ld_glob I hg hm ?_ hdb)⟩
  refine PySem.W.callWith_K (h₀ := X.base) I.ok.mod.kin kp (thn (ha.run pos pins s σ H _ I h) fun us s1 hu => ?_) he hpl
  obtain ⟨vs, H1, I1, r1, q1⟩ := hu
  refine ⟨I1.kIn, ?_⟩
  have lu : us.length = ps.length := by rw [← r1.length]; exact F.len _ _ _ _ q1
  have bs := hb s1 us I1.kIn (by rw [List.append_nil]; exact lu)
  rw [List.append_nil] at bs
  obtain ⟨g1, g2, g3⟩ := z.get I1
  have pin : L2H.PinOk X.stack H1 s1 (x1, oe) := by
    obtain ⟨vs', hv, _⟩ := z.ob
    exact ⟨g1, g2, g3, fun v e => by rw [hv] at e; cases e⟩
  refine wpAny_call (codeAny_mono (F.run X.A X.stack s1 H1 ⟨us, []⟩ us vs Q (E σ) oe hr z.hd z.ob hz pin I1.env0 bs r1 q1) fun res s2 h2 => ?_)
  cases res with
  | error e => exact hx σ pins H1 s1 e s2 I1 h2
  | ok fl =>
    cases fl with
    | ret u => exact I1.after h2
    | next => exact h2.elim
    | brk => exact h2.elim
    | cont => exact h2.elim
/-- a def's body keeps its promise -/
theorem fn_ofP {P : Program} {w : World} {K : PySem.W.Frag} {mg : Str → Option Value} {base : Heap} {k : Nat} {f : Addr} {name qual : Str} {params : Arguments} {body : List Stmt} {scope : Scope} {dV kV doc pm cdv ct oc : Value} {an od : Option Addr} {osl : Array (Option Value)} {N ps : List Str} {Z : Obj → Prop} {sp : Sp}
    (lk : K.lookup f = some ⟨oc, od, .func (PySem.W.fnOf name qual params body scope dV kV doc pm an cdv ct), osl⟩) (hcd : PySem.W.codeIn K cdv qual = true) (S : FnScope N ps scope) (len : ∀ vs H Q E, sp vs H Q E → vs.length = ps.length)
    (hb : ∀ (A : Around) (outer : List Env) (s : Shared) (H : Hp) (vs : List V) (Q : VK) (E : XK) (oe : Obj), A.handled = some (.ref x1) → (∃ vs : Array Value, oe.data = .fields vs ∧ vs[2]? = some .none) → Z oe → L2H.RoomH k (A.deeper (envOfC qual scope s.heap.objs.size f cdv)) → sp vs H Q E →
      ∃ t, PSs (L2H.cxH (L2N.CX P w) P w K mg base N qual scope f cdv A outer s H E (x1, oe)) body t ∧ t { nx := fun _ H' => Q .non H', rt := Q } (L2.start N vs) H) :
    FnP P w K mg base (k + 1) f (PySem.W.fnOf name qual params body scope dV kV doc pm an cdv ct) ps x1 Z sp := by
  refine ⟨len, fun A outer s H args us vs Q E oe hr hd ob hz pin e0 bs r q => ?_⟩
  have KX : K.In s.heap := e0.mod.kin.keeps fun b o e => (e0.bs b o e).1
  have nl : s.heap.NoLimit := e0.mod.nolimit.keeps fun b o e => (e0.bs b o e).1
  have kinds : ∀ y ∈ ps.zip us, scope.names.lookup y.1 = some .local ∨ (scope.names.lookup y.1 = some .cell ∧ ((cellsFrom (s.heap.objs.size + 1) scope.names []).lookup y.1).isSome = true) := fun y hy => by
    rcases S.par y.1 (List.of_mem_zip (a := y.1) (b := y.2) hy).1 with e | e
    · exact .inl e
    · exact .inr ⟨e, PySem.W.cellsFrom_some _ _ _ (.inl e)⟩
  refine codeAny_call_function hr.depth (KX _ _ lk) rfl S.co S.gen rfl (PySem.W.codeRec_of KX hcd) (bs _ _ _ _ (wpAny_newFunctionEnv_cells S.kind kinds fun env ee s1 x => ?_))
  subst ee
  refine ⟨nl.keeps x.toInCall.keep, codeAny_func ?_⟩
  obtain ⟨t, pt, qt⟩ := hb A outer s H vs Q E oe hd ob hz (hr.deeper _) q
  have I := L2H.inv_startH (CX := L2N.CX P w) (f := f) (cd := cdv) (E := E) S pin e0 (len _ _ _ _ q) r x
  refine wpAny_mono (pt.run [] s1 (L2.start N vs) H _ I qt) (fun fl s2 h2 => ?_) fun _ _ z => z
  cases fl with
  | ret u =>
    obtain ⟨v, σ2, H2, J, rv, q2⟩ := h2
    exact ⟨v, H2, J.os, J.bare, J.base, J.hok, rv, q2⟩
  | next =>
    obtain ⟨σ2, H2, J, q2⟩ := h2
    exact ⟨.non, H2, J.os, J.bare, J.base, J.hok, rfl, q2⟩
  | brk =>
    obtain ⟨_, _, _, z⟩ := h2
    exact z.elim
  | cont =>
    obtain ⟨_, _, _, z⟩ := h2
    exact z.elim
end
end PX

/-! PX, part b: the core language, what it computes, and the look that holds it against the text. -/
namespace PX
open PySem PySem.Spec PyProof.Rows L2

inductive Res (α : Type) where
  | ok (a : α) | exc (c : Str) (fs : List D) | stuck
def Res.bind {α β : Type} : Res α → (α → Res β) → Res β
  | .ok a, f => f a
  | .exc c fs, _ => .exc c fs
  | .stuck, _ => .stuck
def Res.opt {α : Type} : Option α → Res α
  | some a => .ok a
  | none => .stuck

inductive Bop where
  | add | sub | mul | fdiv | mod | pow
  deriving DecidableEq
inductive Cop where
  | eq | ne | lt | le | gt | ge | is_ | isn | in_ | nin
  deriving DecidableEq
inductive Blt where
  | len | list | abs | max2 | min2 | int | str | sum | tuple | sorted | all | max1 | min1
  deriving DecidableEq
inductive Mth where
  | join | index | split | count
  deriving DecidableEq
inductive Mz where
  | upper
  deriving DecidableEq
inductive Tg where
  | nm (i : Nat) | tp (is : List Nat)
  deriving DecidableEq
/-- expressions; nil, cons: lists of them -/
inductive E where
  | loc (i : Nat) | int (i : Int) | str (x : Str) | bl (b : Bool) | non | glb (x : Str)
  | bin (o : Bop) (a b : E) | neg (a : E) | cmp (o : Cop) (a b : E)
  | and_ (a b : E) | or_ (a b : E) | one (a : E) | not_ (a : E) | ite (c a b : E)
  | ix (a b : E) | sl (a lo hi : E) | rv (a : E)
  | nil | cons (a r : E) | knil | kcons (a r : E) | tup (es : E) | lst (es : E)
  | call (f : Str) (es : E) | blt (b : Blt) (es : E) | isi (a : E) (t : Str) | mth (m : Mth) (o a : E)
  | lc (own : List Nat) (tg : Tg) (src c e : E)
  | rng1 (a : E) | rng2 (a b : E) | rng3 (a b : E) | zip2 (a b : E) | zip3 (a b c : E) | enum (a : E) | revd (a : E)
  | dn (t : Bool) | get (o k x : E) | mz (m : Mz) (o : E) | fz (a : E)
  | skeys (o : E) | lix (t : Bool) (o a : E)
  | isx (a : E) (u : Str) | lcl (own : List Nat) (tg : Tg) (src c e : E)
  | fld (a : E) (f : Str) | ixt (a b : E) | new (c : Str) (es : E) | meth (c m : Str) (o es : E) | fl (f : Str) | dcp (a : E)

/-! ### data, op by op -/
def keyD : D → Option Key
  | .int i => some (.inl i)
  | .str x => some (.inr x)
  | _ => none
def keysD : List D → Option (List Key)
  | [] => some []
  | d :: ds => match keyD d, keysD ds with
    | some k, some ks => some (k :: ks)
    | _, _ => none
def kD : Key → D
  | .inl i => .int i
  | .inr x => .str x
/-- what a dict holds -/
def dval {κ : Type} [DecidableEq κ] (ks : List κ) (ds : List D) (k : κ) : Option D := ((ks.zip ds).find? fun kv => decide (kv.1 = k)).map (·.2)
def dgetD : D → D → Option (Option D)
  | .box _ (.dk ks) ds, k => (keyD k).map fun k => dval ks ds k
  | .box _ (.dt ks) ds, .tup xs => (keysD xs).map fun k => dval ks ds k
  | _, _ => none
def ixD : D → D → Res D
  | .tup xs, .int i => .opt (atI xs i)
  | .box _ .lst xs, .int i => .opt (atI xs i)
  | .scr ns, .int i => .opt ((atI ns i).map .int)
  | .str z, .int i => if z.length ≤ sizeLine then .opt ((atI z.cps.toList i).map fun c => .str ⟨#[c]⟩) else .stuck
  | .ctup xs, .int i => .opt ((atI xs i).map .str)
  | .box o (.dk ks) ds, k => .opt ((dgetD (.box o (.dk ks) ds) k).getD none)
  | .box o (.dt ks) ds, k => .opt ((dgetD (.box o (.dt ks) ds) k).getD none)
  | _, _ => .stuck
def cutL {α : Type} (xs : List α) (lo hi : Option Int) : List α := (xs.drop (HT.sIx xs.length 0 lo)).take (HT.sIx xs.length xs.length hi - HT.sIx xs.length 0 lo)
def slD : D → Option Int → Option Int → Res D
  | .str z, lo, hi => if z.length ≤ sizeLine then .ok (.str (cutS z lo hi)) else .stuck
  | .box _ .lst xs, lo, hi => if D.nos xs then .ok (.box true .lst (cutL xs lo hi)) else .stuck
  | .tup xs, lo, hi => if HT.sIx xs.length 0 lo = 0 ∧ HT.sIx xs.length xs.length hi = xs.length then .stuck else if D.nos xs then .ok (.tup (cutL xs lo hi)) else .stuck
  | .ctup xs, lo, hi => if HT.sIx xs.length 0 lo = 0 ∧ HT.sIx xs.length xs.length hi = xs.length then .stuck else .ok (.tup ((cutL xs lo hi).map .str))
  | _, _, _ => .stuck
def repL {α : Type} (xs : List α) (n : Nat) : List α := (List.replicate n xs).flatten
def repS (x : Str) (n : Int) : Str := if n < 1 then Str.empty else if n = 1 then x else ⟨(List.replicate n.toNat x.cps).foldl (· ++ ·) #[]⟩
def binD : Bop → D → D → Res D
  | .add, .int i, .int j => .ok (.int (i + j))
  | .add, .str x, .str y => if x.length + y.length ≤ sizeLine then .ok (.str (x ++ y)) else .stuck
  | .add, .box _ .lst xs, .box _ .lst ys => if xs.length + ys.length ≤ sizeLine ∧ D.nos xs = true ∧ D.nos ys = true then .ok (.box true .lst (xs ++ ys)) else .stuck
  | .sub, .int i, .int j => .ok (.int (i - j))
  | .mul, .int i, .int j => if i.natAbs < 2 ^ 64 ∨ j.natAbs < 2 ^ 64 then .ok (.int (i * j)) else .stuck
  | .mul, .str x, .int n => if 0 ≤ n ∧ n < 100000 ∧ x.length * n.toNat ≤ sizeLine ∧ x.length ≤ 100000 then .ok (.str (repS x n)) else .stuck
  | .mul, .box _ .lst xs, .int n => if -(2 ^ 62) ≤ n ∧ n < 2 ^ 62 ∧ xs.length * n.toNat ≤ sizeLine ∧ D.nos xs = true then .ok (.box true .lst (repL xs n.toNat)) else .stuck
  | .fdiv, .int i, .int j => if 0 < j ∧ j < 1073741824 then .ok (.int (i / j)) else .stuck
  | .mod, .int i, .int j => if 0 < j then .ok (.int (i % j)) else .stuck
  | .pow, .int i, .int j => if 0 ≤ j ∧ j ≤ 1000000 ∧ i.natAbs < 2 ^ 64 then .ok (.int (i ^ j.toNat)) else .stuck
  | _, _, _ => .stuck
mutual
def D.py : D → Option PyData
  | .non => some .none
  | .bl b => some (.bool b)
  | .int i => some (.int i)
  | .str x => some (.str x)
  | .tup xs => (D.pys xs).map .tuple
  | .box _ .lst xs => (D.pys xs).map .list
  | .box _ (.dk _) _ => none
  | .box _ (.dt _) _ => none
  | .box _ (.ob _ _) _ => none
  | .dead => none
  | .scr _ => none
  | .ctup xs => some (.tuple (xs.map .str))
  | .exv _ _ => none
def D.pys : List D → Option (List PyData)
  | [] => some []
  | d :: ds => match D.py d, D.pys ds with
    | some a, some as => some (a :: as)
    | _, _ => none
end
/-- == of scalars and of data -/
def eqD : D → D → Option Bool
  | .int i, .int j => some (decide (i = j))
  | .str x, .str y => some (decide (x = y))
  | .bl a, .bl b => some (decide (a = b))
  | .non, .non => some true
  | .non, .int _ => some false | .int _, .non => some false | .non, .str _ => some false | .str _, .non => some false | .non, .bl _ => some false | .bl _, .non => some false
  | .int _, .str _ => some false | .str _, .int _ => some false | .bl _, .str _ => some false | .str _, .bl _ => some false
  | d, e => match d.py, e.py with
    | some a, some b => if SeqAt.shaped a = true ∧ SeqAt.shaped b = true then some (PyData.eqv a b) else none
    | _, _ => none
/-- lists of unlike lengths -/
def eqL : D → D → Option Bool
  | .box _ .lst xs, .box _ .lst ys => if xs.length = ys.length then none else some false
  | _, _ => none
def eqQ (d e : D) : Option Bool := match eqD d e with
  | some b => some b
  | none => eqL d e
/-- flat things, alike -/
def flatD : D → Bool
  | .int _ => true | .str _ => true | .bl _ => true | .non => true
  | _ => false
def likeD : D → D → Option Bool
  | .int i, .int j => some (decide (i = j))
  | .str x, .str y => some (decide (x = y))
  | .int _, .str _ => some false | .str _, .int _ => some false
  | _, _ => none
def inLs (x : D) : List D → Option Bool
  | [] => some false
  | y :: ys => match likeD y x, inLs x ys with
    | some a, some b => some (a || b)
    | _, _ => none
def inD : D → D → Option Bool
  | .str ⟨⟨[c]⟩⟩, .str z => some (decide (c ∈ z.cps.toList))
  | .int i, .tup xs => inLs (.int i) xs
  | .str x, .tup xs => inLs (.str x) xs
  | .int i, .box _ .lst xs => inLs (.int i) xs
  | .str x, .box _ .lst xs => inLs (.str x) xs
  | .str x, .ctup xs => some (decide (x ∈ xs))
  | d, .box o (.dk ks) ds => (dgetD (.box o (.dk ks) ds) d).map (·.isSome)
  | d, .box o (.dt ks) ds => (dgetD (.box o (.dt ks) ds) d).map (·.isSome)
  | .tup xs, .box _ .lst ys => match D.py (.tup xs), D.pys ys with
    | some a, some bs => if SeqAt.shaped a = true ∧ SeqAt.shaped (.list bs) = true then some (bs.any fun b => PyData.eqv b a) else none
    | _, _ => none
  | _, _ => none
def isD : D → D → Option Bool
  | d, .non => match d with
    | .dead => none
    | .non => some true
    | _ => some false
  | d, .bl b => match d with
    | .dead => none
    | .bl a => some (decide (a = b))
    | _ => some false
  | _, _ => none
def cmpD : Cop → D → D → Res D
  | .eq, d, e => .opt ((eqQ d e).map .bl)
  | .ne, d, e => .opt ((eqD d e).map fun b => .bl (!b))
  | .lt, .int i, .int j => .ok (.bl (decide (i < j)))
  | .le, .int i, .int j => .ok (.bl (decide (i ≤ j)))
  | .gt, .int i, .int j => .ok (.bl (decide (j < i)))
  | .ge, .int i, .int j => .ok (.bl (decide (j ≤ i)))
  | .is_, d, e => .opt ((isD d e).map .bl)
  | .isn, d, e => .opt ((isD d e).map fun b => .bl (!b))
  | .in_, d, e => .opt ((inD d e).map .bl)
  | .nin, d, e => .opt ((inD d e).map fun b => .bl (!b))
  | _, _, _ => .stuck
def itemsOf : D → Option (List D)
  | .tup xs => if D.nos xs then some xs else none
  | .box _ .lst xs => if D.nos xs then some xs else none
  | .str z => some (z.cps.toList.map fun c => .str ⟨#[c]⟩)
  | .scr ns => some (ns.map .int)
  | .ctup xs => some (xs.map .str)
  | _ => none
def strsOf : List D → Option (List Str)
  | [] => some []
  | .str x :: ds => (strsOf ds).map (x :: ·)
  | _ => none
def intsOf : List D → Option (List Int)
  | [] => some []
  | .int x :: ds => (intsOf ds).map (x :: ·)
  | _ => none
def blsOf : List D → Option (List Bool)
  | [] => some []
  | .bl x :: ds => (blsOf ds).map (x :: ·)
  | _ => none
def maxL : List Int → Option Int
  | [] => none
  | n :: ns => match maxL ns with
    | none => some n
    | some m => some (if m > n then m else n)
def minL : List Int → Option Int
  | [] => none
  | n :: ns => match minL ns with
    | none => some n
    | some m => some (if m < n then m else n)
/-- pairs of numbers -/
def prsOf : List D → Option (List (Int × Int))
  | [] => some []
  | .tup [.int i, .int j] :: ds => (prsOf ds).map ((i, j) :: ·)
  | _ => none
def insI (n : Int) : List Int → List Int
  | [] => [n]
  | m :: ms => if n ≤ m then n :: m :: ms else m :: insI n ms
def sortI : List Int → List Int
  | [] => []
  | n :: ns => insI n (sortI ns)
def leP (p q : Int × Int) : Bool := decide (p.1 < q.1) || (decide (p.1 = q.1) && decide (p.2 ≤ q.2))
def insP (n : Int × Int) : List (Int × Int) → List (Int × Int)
  | [] => [n]
  | m :: ms => if leP n m = true then n :: m :: ms else m :: insP n ms
def sortP : List (Int × Int) → List (Int × Int)
  | [] => []
  | n :: ns => insP n (sortP ns)
def prD (p : Int × Int) : D := .tup [.int p.1, .int p.2]
def sortD (xs : List D) : Option (List D) := match intsOf xs with
  | some ns => some ((sortI ns).map .int)
  | none => (prsOf xs).map fun ps => (sortP ps).map prD
def bltD : Blt → List D → Res D
  | .len, [.tup xs] => .ok (.int xs.length)
  | .len, [.box _ .lst xs] => .ok (.int xs.length)
  | .len, [.scr ns] => .ok (.int ns.length)
  | .len, [.str z] => if z.length ≤ sizeLine then .ok (.int z.length) else .stuck
  | .list, [.tup xs] => if D.nos xs then .ok (.box true .lst xs) else .stuck
  | .list, [.box _ .lst xs] => if D.nos xs then .ok (.box true .lst xs) else .stuck
  | .list, [.str z] => if z.length ≤ sizeLine then .ok (.box true .lst (z.cps.toList.map fun c => .str ⟨#[c]⟩)) else .stuck
  | .abs, [.int i] => .ok (.int (if i < 0 then -i else i))
  | .max2, [.int i, .int j] => .ok (.int (if j > i then j else i))
  | .min2, [.int i, .int j] => .ok (.int (if j < i then j else i))
  | .int, [.int i] => .ok (.int i)
  | .int, [.bl b] => .ok (.int (if b then 1 else 0))
  | .int, [.str a] => match PySem.intText? a with
    | some n => if a.length ≤ 640 then .ok (.int n) else .stuck
    | none => .stuck
  | .str, [.int i] => if i.natAbs.log2 < 1920 then .ok (.str (toString i)) else .stuck
  | .sum, [.box _ .lst xs] => .opt ((intsOf xs).map fun ns => .int ns.sum)
  | .len, [.ctup xs] => .ok (.int xs.length)
  | .len, [.box _ (.dk ks) _] => .ok (.int ks.length)
  | .len, [.box _ (.dt ks) _] => .ok (.int ks.length)
  | .list, [.box _ (.dt ks) _] => .ok (.box true .lst (ks.map fun k => .tup (k.map kD)))
  | .tuple, [.box _ .lst xs] => if D.nos xs then .ok (.tup xs) else .stuck
  | .tuple, [.tup xs] => if D.nos xs then .ok (.tup xs) else .stuck
  | .sorted, [.box _ .lst xs] => .opt ((sortD xs).map fun ys => .box true .lst ys)
  | .all, [.box _ .lst xs] => .opt ((blsOf xs).map fun bs => .bl (bs.all id))
  | .max1, [.box _ .lst xs] => .opt ((intsOf xs).bind fun ns => (maxL ns).map .int)
  | .min1, [.box _ .lst xs] => .opt ((intsOf xs).bind fun ns => (minL ns).map .int)
  | _, _ => .stuck
def bltName : Blt → Str
  | .len => "len" | .list => "list" | .abs => "abs" | .max2 => "max" | .min2 => "min" | .int => "int" | .str => "str" | .sum => "sum" | .tuple => "tuple" | .sorted => "sorted" | .all => "all" | .max1 => "max" | .min1 => "min"
def mthD : Mth → D → D → Res D
  | .join, .str a, .box _ .lst xs => match strsOf xs with
    | some ys => if (ys.map (·.length)).sum + ys.length * a.length ≤ 16777216 then .ok (.str (Txt.join a ys)) else .stuck
    | none => .stuck
  | .join, .str a, .tup xs => match strsOf xs with
    | some ys => if (ys.map (·.length)).sum + ys.length * a.length ≤ 16777216 then .ok (.str (Txt.join a ys)) else .stuck
    | none => .stuck
  | .index, .str a, .str b => .opt ((Txt.index0 a b).map fun k => .int (k : Nat))
  | .split, .str a, .str b => if b.length ≠ 0 ∧ a.length + 2 ≤ sizeLine then .ok (.box true .lst ((Txt.split a b).map .str)) else .stuck
  | .count, .str a, .str b => .ok (.int (Txt.count a b))
  | _, _, _ => .stuck
def mthName : Mth → Str
  | .join => "join" | .index => "index" | .split => "split" | .count => "count"
def mzD : Mz → D → Res D
  | .upper, .str a => if a.length ≤ 5592405 then .ok (.str (Txt.upper a)) else .stuck
  | _, _ => .stuck
def mzName : Mz → Str
  | .upper => "upper"
/-- the built-in type of data -/
def tyD : D → Option Str
  | .non => some "NoneType" | .bl _ => some "bool" | .int _ => some "int" | .str _ => some "str" | .tup _ => some "tuple" | .box _ .lst _ => some "list"
  | .box _ (.dk _) _ => some "dict" | .box _ (.dt _) _ => some "dict" | .ctup _ => some "tuple"
  | _ => none
def isiD (d : D) (t : Str) : Res D :=
  if t = "bool" ∨ t = "str" ∨ t = "list" ∨ t = "tuple" ∨ t = "int" then
    match d with
    | .non => .ok (.bl false)
    | .bl _ => .ok (.bl (decide (t = "bool") || decide (t = "int")))
    | .int _ => .ok (.bl (decide (t = "int")))
    | .str _ => .ok (.bl (decide (t = "str")))
    | .tup _ => .ok (.bl (decide (t = "tuple")))
    | .box _ .lst _ => .ok (.bl (decide (t = "list")))
    | _ => .stuck
  else .stuck
def wipeD (δ : List D) : List Nat → List D
  | [] => δ
  | v :: vs => (wipeD δ vs).set v .dead
def setAll (δ : List D) : List Nat → List D → List D
  | i :: is, x :: xs => setAll (δ.set i x) is xs
  | _, _ => δ
def bindTg : Tg → D → List D → Option (List D)
  | .nm i, x, δ => if x.no then some (δ.set i x) else none
  | .tp is, .tup xs, δ => if D.nos xs ∧ xs.length = is.length then some (setAll δ is xs) else none
  | _, _, _ => none
/-- a view: it may be (part of) what a slot owns -/
def E.view : E → Bool
  | .loc _ => true
  | .ix _ _ => true
  | .get _ _ _ => true
  | .ite _ a b => a.view || b.view
  | .one a => a.view
  | .and_ _ b => b.view
  | .or_ _ b => b.view
  | .fld a _ => a.view
  | _ => false
def vlD (view : Bool) (d : D) : Res D := if view && !d.no then .stuck else .ok d
mutual
/-- every box within is owned -/
def D.fr : D → Bool
  | .tup xs => D.frs xs
  | .box o _ ds => o && D.frs ds
  | .scr _ => false
  | _ => true
def D.frs : List D → Bool
  | [] => true
  | d :: ds => D.fr d && D.frs ds
end
def unT : D → List D
  | .tup xs => xs
  | _ => []
/-- a comprehension's turns -/
def lcGo (bnd : D → Option (List D)) (c e : List D → Res D) (view : Bool) : List D → List D → Res (List D)
  | [], acc => .ok acc
  | x :: xs, acc => match bnd x with
    | none => .stuck
    | some δ => match c δ with
      | .ok (.bl true) => (match (e δ).bind (vlD view) with
        | .ok d => if acc.length < sizeLine then lcGo bnd c e view xs (acc ++ [d]) else .stuck
        | _ => .stuck)
      | .ok (.bl false) => lcGo bnd c e view xs acc
      | _ => .stuck
def rngL (lo n : Int) : List D := (List.range (n - lo).toNat).map fun (i : Nat) => .int (lo + i)
def smallI (n : Int) : Prop := n.natAbs < 2 ^ 61
instance (n : Int) : Decidable (smallI n) := inferInstanceAs (Decidable (_ < _))
/-- what is handed to a def: as it is, or, where a slot owns part of it, lent -/
def lend (fn : List D → Res D) (ds : List D) : Res D :=
  if D.nos ds then fn ds else match fn (D.frzs ds) with
    | .ok d => if d.fr then .ok d else .stuck
    | r => r
def E.isNon : E → Bool
  | .non => true
  | _ => false
def partOf (b : Bool) : Res D → Res (Option Int)
  | .ok .non => if b then .ok none else .stuck
  | .ok (.int i) => .ok (some i)
  | .exc c fs => .exc c fs
  | _ => .stuck
def cndD (x : D) (a b : Res D) : Res D := match x with
  | .bl true => a
  | .bl false => b
  | _ => .stuck
def strK (x : D) (k : Res D) : Res D := match x with
  | .str _ => k
  | _ => .stuck
/-- the own errors, right under one -/
def subX (c u : Str) : Bool := decide (c = u) || (decide (u = "BandError") || decide (u = "ValueError"))
def own14 : List Str := ["BadTablet", "BadRow", "BadText", "BadMark", "TooLong", "TooTight", "SpoolDry", "NoTablet", "NothingLeft", "Unlike", "SeenThread", "NoSuchWay", "Barred", "BandError"]
def isxD (u : Str) : D → Res D
  | .exv c _ => if own14.contains u || decide (u = "ValueError") then .ok (.bl (subX c u)) else .stuck
  | _ => .stuck
mutual
/-- no exception within -/
def D.cl : D → Bool
  | .tup xs => D.cls xs
  | .box _ _ xs => D.cls xs
  | .exv _ _ => false
  | _ => true
def D.cls : List D → Bool
  | [] => true
  | d :: ds => D.cl d && D.cls ds
end
def negD : D → Res D
  | .int i => .ok (.int (-i))
  | _ => .stuck
def notD : D → Res D
  | .bl b => .ok (.bl (!b))
  | _ => .stuck
def rvD : D → Res D
  | .box _ .lst xs => if D.nos xs then .ok (.box true .lst xs.reverse) else .stuck
  | _ => .stuck
def tupD (x : D) : Res D := if (unT x).length ≤ sizeLine then .ok (.tup (unT x)) else .stuck
/-- a display's items: each a value to keep -/
def lstD (x : D) : Res D := if (unT x).length ≤ sizeLine then .ok (.box true .lst (unT x)) else .stuck
def rng1D : D → Res D
  | .int n => if smallI n then .ok (.tup (rngL 0 n)) else .stuck
  | _ => .stuck
/-- range(lo, n, -1) -/
def rngR (lo n : Int) : List D := (List.range (lo - n).toNat).map fun (i : Nat) => .int (lo - i)
def rng3D : D → D → Res D
  | .int lo, .int n => if smallI lo ∧ smallI n then .ok (.tup (rngR lo n)) else .stuck
  | _, _ => .stuck
def rng2D : D → D → Res D
  | .int lo, .int n => if smallI lo ∧ smallI n then .ok (.tup (rngL lo n)) else .stuck
  | _, _ => .stuck
def zipL (xs ys : List D) : List D := xs.zipWith (fun x y => .tup [x, y]) ys
def zip2D (x y : D) : Res D := match itemsOf x, itemsOf y with
  | some xs, some ys => .ok (.tup (zipL xs ys))
  | _, _ => .stuck
def zipL3 : List D → List D → List D → List D
  | x :: xs, y :: ys, z :: zs => .tup [x, y, z] :: zipL3 xs ys zs
  | _, _, _ => []
def zip3D (x y z : D) : Res D := match itemsOf x, itemsOf y, itemsOf z with
  | some xs, some ys, some zs => .ok (.tup (zipL3 xs ys zs))
  | _, _, _ => .stuck
def enumL (xs : List D) : List D := xs.zipIdx.map fun p => .tup [.int (p.2 : Nat), p.1]
def enumD (x : D) : Res D := match itemsOf x with
  | some xs => .ok (.tup (enumL xs))
  | none => .stuck
def noneT : D → D → Bool
  | .box _ (.dt _) _, .non => true
  | _, _ => false
def getD (o k x : D) : Res D := match dgetD o k with
  | some r => .ok (r.getD x)
  | none => if noneT o k then .ok x else .stuck
/-- pairs of numbers, as keys -/
def prKs : List (List Key) → Option (List (Int × Int))
  | [] => some []
  | [.inl i, .inl j] :: ks => (prKs ks).map ((i, j) :: ·)
  | _ => none
def skeysD : D → Res D
  | .box _ (.dt ks) _ => .opt ((prKs ks).map fun ps => .box true .lst ((sortP ps).map prD))
  | _ => .stuck
def idxB (xs : List D) (b : Str) : Option Nat := (strsOf xs).bind fun ss => ss.findIdx? fun y => decide (y = b)
def lixD (t : Bool) : D → D → Res D
  | .box _ .lst xs, .str b => if t then .stuck else .opt ((idxB xs b).map fun j => .int (j : Nat))
  | .ctup ss, .str b => if t then .opt ((ss.findIdx? fun y => decide (y = b)).map fun j => .int (j : Nat)) else .stuck
  | _, _ => .stuck
def lixK (t : Bool) (x : D) (k : Res D) : Res D := match x with
  | .box _ .lst _ => if t then .stuck else k
  | .ctup _ => if t then k else .stuck
  | _ => .stuck
def isDct : D → Bool
  | .box _ (.dk _) _ => true | .box _ (.dt _) _ => true
  | _ => false
def revdD : D → Res D
  | .box _ .lst xs => if D.nos xs then .ok (.tup xs.reverse) else .stuck
  | _ => .stuck
def lcD (s : D) (go : List D → Res (List D)) : Res D := match itemsOf s with
  | none => .stuck
  | some xs => (go xs).bind fun ys => .ok (.box true .lst ys)
def lclD (s : D) (go : List D → Res (List D)) : Res D := match s with
  | .box _ .lst _ => lcD s go
  | _ => .stuck
/-- a field of an instance -/
def fldL (f : Str) : List Str → List D → Option D
  | n :: ns, d :: ds => if n = f then some d else fldL f ns ds
  | _, _ => none
def fldD (f : Str) : D → Res D
  | .box _ (.ob _ ns) ds => .opt (fldL f ns ds)
  | _ => .stuck
/-- an item of a new tuple -/
def ixtD : D → D → Res D
  | .tup xs, .int i => .opt (L2.atI xs i)
  | _, _ => .stuck
/-- a field is put -/
def putNs (f : Str) : List Str → List Str
  | [] => [f]
  | n :: ns => if n = f then n :: ns else n :: putNs f ns
def putFs (f : Str) (d : D) : List Str → List D → List D
  | [], _ => [d]
  | n :: ns, x :: xs => if n = f then d :: xs else x :: putFs f d ns xs
  | _ :: _, [] => []
/-- the keys of the table: a method; a def that changes what it is handed -/
def keyM (c m : Str) : Str := c ++ ("." : Str) ++ m
def keyX (c m : Str) : Str := c ++ ("!" : Str) ++ m
def bare (f : Str) : Bool := !(f.cps.toList.contains 46) && !(f.cps.toList.contains 33)
def clsK (c : Str) (x : D) (k : Res D) : Res D := match x with
  | .box _ (.ob c' _) _ => if c' = c then k else .stuck
  | _ => .stuck
def newR : Res D → Res D
  | .ok (.tup (.non :: s :: _)) => .ok s
  | _ => .stuck
/-- a new instance; what is handed in is lent -/
def newD (F : List D → Res D) (c : Str) (ds : List D) : Res D :=
  if D.nos ds then newR (F (.box true (.ob c []) [] :: ds)) else match newR (F (.box true (.ob c []) [] :: D.frzs ds)) with
    | .ok d => if d.fr then .ok d else .stuck
    | r => r
def dcpD : D → Res D
  | .box _ (.dk ks) ds => if D.nos ds then .ok (.box true (.dk ks) ds) else .stuck
  | _ => .stuck
section
variable (fn : Str → Option (List D → Res D)) (gl : Str → Option D)
def ev : E → List D → Res D
  | .loc i, δ => match δ[i]? with
    | some .dead => .stuck
    | some d => .ok d
    | none => .stuck
  | .int i, _ => .ok (.int i)
  | .str x, _ => .ok (.str x)
  | .bl b, _ => .ok (.bl b)
  | .non, _ => .ok .non
  | .glb x, _ => .opt (gl x)
  | .bin o a b, δ => (ev a δ).bind fun x => (ev b δ).bind fun y => binD o x y
  | .neg a, δ => (ev a δ).bind negD
  | .cmp o a b, δ => (ev a δ).bind fun x => (ev b δ).bind fun y => cmpD o x y
  | .and_ a b, δ => (ev a δ).bind fun x => cndD x (ev b δ) (.ok (.bl false))
  | .or_ a b, δ => (ev a δ).bind fun x => cndD x (.ok (.bl true)) (ev b δ)
  | .one a, δ => ev a δ
  | .not_ a, δ => (ev a δ).bind notD
  | .ite c a b, δ => (ev c δ).bind fun x => cndD x (ev a δ) (ev b δ)
  | .ix a b, δ => (ev a δ).bind fun x => (ev b δ).bind fun y => ixD x y
  | .sl a lo hi, δ => (ev a δ).bind fun x => (partOf lo.isNon (ev lo δ)).bind fun l => (partOf hi.isNon (ev hi δ)).bind fun h => slD x l h
  | .rv a, δ => (ev a δ).bind rvD
  | .nil, _ => .ok (.tup [])
  | .cons a r, δ => (ev a δ).bind fun x => (ev r δ).bind fun xs => .ok (.tup (x :: unT xs))
  | .knil, _ => .ok (.tup [])
  | .kcons a r, δ => ((ev a δ).bind (vlD a.view)).bind fun x => (ev r δ).bind fun xs => .ok (.tup (x :: unT xs))
  | .tup es, δ => (ev es δ).bind tupD
  | .lst es, δ => (ev es δ).bind lstD
  | .call f es, δ => match fn f with
    | none => .stuck
    | some F => (ev es δ).bind fun x => lend F (unT x)
  | .blt b es, δ => (ev es δ).bind fun x => bltD b (unT x)
  | .isi a t, δ => (ev a δ).bind fun x => isiD x t
  | .mth m o a, δ => (ev o δ).bind fun x => strK x ((ev a δ).bind fun y => mthD m x y)
  | .lc own tg src c e, δ => (ev src δ).bind fun s => lcD s fun xs => lcGo (fun x => bindTg tg x (wipeD δ own)) (ev c) (ev e) e.view xs []
  | .isx a u, δ => (ev a δ).bind (isxD u)
  | .lcl own tg src c e, δ => (ev src δ).bind fun s => lclD s fun xs => lcGo (fun x => bindTg tg x (wipeD δ own)) (ev c) (ev e) e.view xs []
  | .rng1 a, δ => (ev a δ).bind rng1D
  | .rng2 a b, δ => (ev a δ).bind fun x => (ev b δ).bind fun y => rng2D x y
  | .rng3 a b, δ => (ev a δ).bind fun x => (ev b δ).bind fun y => rng3D x y
  | .zip3 a b c, δ => ((ev a δ).bind (vlD a.view)).bind fun x => ((ev b δ).bind (vlD b.view)).bind fun y => ((ev c δ).bind (vlD c.view)).bind fun z => zip3D x y z
  | .dn t, _ => .ok (.box true (if t then .dt [] else .dk []) [])
  | .get o k x, δ => (ev o δ).bind fun d => if isDct d then (ev k δ).bind fun y => (ev x δ).bind fun z => getD d y z else .stuck
  | .mz m o, δ => (ev o δ).bind fun x => strK x (mzD m x)
  | .fz a, δ => (ev a δ).bind fun d => .ok d.frz
  | .skeys a, δ => (ev a δ).bind skeysD
  | .lix t o a, δ => (ev o δ).bind fun x => lixK t x ((ev a δ).bind fun y => lixD t x y)
  | .zip2 a b, δ => ((ev a δ).bind (vlD a.view)).bind fun x => ((ev b δ).bind (vlD b.view)).bind fun y => zip2D x y
  | .enum a, δ => ((ev a δ).bind (vlD a.view)).bind enumD
  | .revd a, δ => ((ev a δ).bind (vlD a.view)).bind revdD
  | .fld a f, δ => (ev a δ).bind (fldD f)
  | .ixt a b, δ => (ev a δ).bind fun x => (ev b δ).bind fun y => ixtD x y
  | .fl f, _ => .ok (.exv f [])
  | .new c es, δ => match fn (keyX c "__init__") with
    | none => .stuck
    | some F => (ev es δ).bind fun x => newD F c (unT x)
  | .meth c m o es, δ => match fn (keyM c m) with
    | none => .stuck
    | some F => (ev o δ).bind fun x => clsK c x ((ev es δ).bind fun y => lend F (x :: unT y))
  | .dcp a, δ => (ev a δ).bind dcpD
end

/-! ### what changes boxes -/
inductive Mop where
  | app | pop | popAt | ins | clear
  deriving DecidableEq
/-- an argument: a box at a path of slot i that may be changed; a value -/
inductive Arg where
  | io (i : Nat) (p : List E) | val (e : E)
/-- expressions that change boxes: a method of the box at a path of slot i; of a new box -/
inductive X where
  | mut (i : Nat) (p : List E) (m : Mop) (args : E) | mutt (o : E) (m : Mop) (args : E)
  | mutm (i : Nat) (p : List E) (j : Nat)
  | xc (m : Str) (as : List Arg) | xcm (c m : Str) (i : Nat) (p : List E) (as : List Arg) | mutx (i : Nat) (x : X) | mutp (i : Nat) (f f2 : Str) (e : E) | dpop (i : Nat) (p : List E) (k : E) | dclr (i : Nat) (p : List E)
  | ev (e : E) | anil | acons (x r : X) | cl (f : Str) (a : X) | ixt (x : X) (e : E) | tp (a : X)
/-- tests that may change boxes -/
inductive Y where
  | t (e : E) | x (x : X) | not_ (y : Y) | and_ (a b : Y) | or_ (a b : Y) | one (y : Y)
inductive RX where
  | ok (d : D) (δ : List D) | exc (c : Str) (fs : List D) (δ : List D) | stuck
/-- which item -/
def stpD : D → D → Option Nat
  | .box true .lst xs, .int i => ixN xs.length i
  | .tup xs, .int i => ixN xs.length i
  | .box true (.dk ks) _, .int i => ks.findIdx? fun k => decide (k = .inl i)
  | .box true (.dk ks) _, .str x => ks.findIdx? fun k => decide (k = .inr x)
  | .box true (.ob _ ns) _, .exv f [] => ns.findIdx? fun n => decide (n = f)
  | _, _ => none
def kidD : D → Nat → Option D
  | .box true _ xs, j => xs[j]?
  | .tup xs, j => xs[j]?
  | _, _ => none
def putD : D → Nat → D → D
  | .box o k xs, j, d => .box o k (xs.set j d)
  | .tup xs, j, d => .tup (xs.set j d)
  | e, _, _ => e
/-- a list's method: what it gives, the box behind it -/
def mopD : Mop → D → List D → Option (D × D)
  | .app, .box true .lst xs, [d] => if xs.length < sizeLine then some (.non, .box true .lst (xs ++ [d])) else none
  | .pop, .box true .lst xs, [] => (xs.getLast?).map fun d => (d, .box true .lst xs.dropLast)
  | .popAt, .box true .lst xs, [.int i] => if -(2 ^ 62) ≤ i ∧ i < 2 ^ 62 then (ixN xs.length i).bind fun j => (xs[j]?).map fun d => (d, .box true .lst (xs.eraseIdx j)) else none
  | .ins, .box true .lst xs, [.int i, d] => if 0 ≤ i ∧ i ≤ xs.length ∧ xs.length < sizeLine then some (.non, .box true .lst (xs.take i.toNat ++ d :: xs.drop i.toNat)) else none
  | .clear, .box true .lst _, [] => some (.non, .box true .lst [])
  | _, _, _ => none
def mopN : Mop → Nat
  | .app => 1 | .pop => 0 | .popAt => 1 | .ins => 2 | .clear => 0
def mopName : Mop → Str
  | .app => "append" | .pop => "pop" | .popAt => "pop" | .ins => "insert" | .clear => "clear"
/-! ### statements -/
inductive S where
  | skip | seq (a b : S)
  | asg (i : Nat) (e : E) | asgt (is : List Nat) (e : E)
  | app (i : Nat) (e : E) | put (i : Nat) (p : List E) (k e : E)
  | spl (x i : Nat) (m : Mop) (args : E) | ret2 (i j : Nat)
  | ife (c : E) (a b : S) | for_ (tg : Tg) (src : E) (b : S) | wh (n : Nat) (c : E) (b : S)
  | ret (e : E) | retv (i : Nat) | retN | brk | cont | drop (e : E) | rse (c : Str) | frz (i : Nat) | kill (i : Nat) | never
  | xasg (i : Nat) (x : X) | xasgt (is : List Nat) (x : X) | xdrop (x : X)
  | try_ (b : S) (c : Str) (i : Nat) (e : E) | tryN (b : S) (c : Str) | tryZ (b : S)
  | retx (e : E) | xret (x : X) | retxm (x : Str) (j : Nat) | retm (x : Str) (j : Nat) | retxN
  | tryx (b : S) (c : Str) (i : Nat) (e : E) | tryR (b : S) (cs : List Str) (c : Str)
  | ify (y : Y) (a b : S) | rety (x : X)
  | frzp (i : Nat) (js : List Nat) | putf (i : Nat) (p : List E) (f : Str) (e : E)
inductive Out where
  | nx (δ : List D) | bk (δ : List D) | ct (δ : List D) | rt (d : D) | rtx (d : D) (δ : List D) | exc (c : Str) (fs : List D) (δ : List D) | stuck
def Out.thn : Out → (List D → Out) → Out
  | .nx δ, f => f δ
  | r, _ => r
def Res.out (δ : List D) (f : D → Out) : Res D → Out
  | .ok d => f d
  | .exc c fs => .exc c fs δ
  | .stuck => .stuck
def RX.out (f : D → List D → Out) : RX → Out
  | .ok d δ => f d δ
  | .exc c fs δ => .exc c fs δ
  | .stuck => .stuck
def putKs {κ : Type} [DecidableEq κ] (ks : List κ) (k : κ) : List κ := if k ∈ ks then ks else ks ++ [k]
def putDs {κ : Type} [DecidableEq κ] (ks : List κ) (ds : List D) (k : κ) (d : D) : List D := if k ∈ ks then List.zipWith (fun y e => if y = k then d else e) ks ds else ds ++ [d]
/-- box[k] = d -/
def putB : D → D → D → Option D
  | .box true .lst xs, .int i, d => (ixN xs.length i).map fun j => .box true .lst (xs.set j d)
  | .box true (.dk ks) ds, k, d => (keyD k).bind fun k => if ks.length < sizeLine ∧ D.nos ds = true then some (.box true (.dk (putKs ks k)) (putDs ks ds k d.frz)) else none
  | .box true (.dt ks) ds, .tup xs, d => (keysD xs).bind fun k => if ks.length < sizeLine ∧ D.nos ds = true then some (.box true (.dt (putKs ks k)) (putDs ks ds k d.frz)) else none
  | _, _, _ => none
def forGo (bnd : D → List D → Option (List D)) (b : List D → Out) : List D → List D → Out
  | [], δ => .nx δ
  | x :: xs, δ => match bnd x δ with
    | none => .stuck
    | some δ' => match b δ' with
      | .nx δ2 => forGo bnd b xs δ2
      | .ct δ2 => forGo bnd b xs δ2
      | .bk δ2 => .nx δ2
      | r => r
def whGo (c : List D → Res D) (b : List D → Out) : Nat → List D → Out
  | 0, _ => .stuck
  | n + 1, δ => match c δ with
    | .ok (.bl true) => (match b δ with
      | .nx δ2 => whGo c b n δ2
      | .ct δ2 => whGo c b n δ2
      | .bk δ2 => .nx δ2
      | r => r)
    | .ok (.bl false) => .nx δ
    | .exc c fs => .exc c fs δ
    | _ => .stuck
def cndO (x : D) (a b : Out) : Out := match x with
  | .bl true => a
  | .bl false => b
  | _ => .stuck
section
variable (fn : Str → Option (List D → Res D)) (gl : Str → Option D) (ex : Xs)
/-- a value to keep -/
def evl (e : E) (δ : List D) : Res D := (ev fn gl e δ).bind (vlD e.view)
/-- the items at a path: numbers of items -/
def pthD : List E → List D → D → Res (List Nat)
  | [], _, _ => .ok []
  | e :: es, δ, d => (ev fn gl e δ).bind fun y => match stpD d y with
    | none => .stuck
    | some j => match kidD d j with
      | none => .stuck
      | some d' => (pthD es δ d').bind fun js => .ok (j :: js)
def atP : D → List Nat → Option D
  | d, [] => some d
  | d, j :: js => (kidD d j).bind fun d' => atP d' js
def setP : D → List Nat → D → D
  | _, [], e => e
  | d, j :: js, e => match kidD d j with
    | some d' => putD d j (setP d' js e)
    | none => d
def isOwn : D → Bool
  | .box true .lst _ => true
  | _ => false
def RX.opt : Option (D × List D) → RX
  | some p => .ok p.1 p.2
  | none => .stuck
def mutR (i : Nat) (p : List E) (m : Mop) (args : E) (δ : List D) : RX := match δ[i]? with
  | none => .stuck
  | some .dead => .stuck
  | some d => match pthD fn gl p δ d with
    | .ok js => (match atP d js with
      | none => .stuck
      | some b => if isOwn b then (match ev fn gl args δ with
        | .ok x => RX.opt ((mopD m b (unT x)).map fun r => (r.1, δ.set i (setP d js r.2)))
        | .exc c fs => .exc c fs δ
        | .stuck => .stuck) else .stuck)
    | .exc c fs => .exc c fs δ
    | .stuck => .stuck
def muttR (o : E) (m : Mop) (args : E) (δ : List D) : RX := match evl fn gl o δ with
  | .ok b => if isOwn b && (m == .app || m == .clear) then (match ev fn gl args δ with
    | .ok x => RX.opt ((mopD m b (unT x)).map fun r => (r.1, δ))
    | .exc c fs => .exc c fs δ
    | .stuck => .stuck) else .stuck
  | .exc c fs => .exc c fs δ
  | .stuck => .stuck
def isOb : D → Bool
  | .box true _ _ => true
  | _ => false
def dropKs {κ : Type} [DecidableEq κ] (k : κ) : List κ → List D → List κ × List D
  | y :: ks, d :: ds => if y = k then dropKs k ks ds else (y :: (dropKs k ks ds).1, d :: (dropKs k ks ds).2)
  | _, _ => ([], [])
/-- d.pop(k) -/
def dpopD : D → D → Option (D × D)
  | .box true (.dk ks) ds, k => (keyD k).bind fun k => if D.nos ds then (dval ks ds k).map fun d => (d, .box true (.dk (dropKs k ks ds).1) (dropKs k ks ds).2) else none
  | _, _ => none
def isDk : D → Bool
  | .box true (.dk _) _ => true
  | _ => false
def dpopR (i : Nat) (p : List E) (k : E) (δ : List D) : RX := match δ[i]? with
  | none => .stuck
  | some .dead => .stuck
  | some d => match pthD fn gl p δ d with
    | .ok js => (match atP d js with
      | none => .stuck
      | some b => if isDk b then (match ev fn gl k δ with
        | .ok x => RX.opt ((dpopD b x).map fun r => (r.1, δ.set i (setP d js r.2)))
        | .exc c fs => .exc c fs δ
        | .stuck => .stuck) else .stuck)
    | .exc c fs => .exc c fs δ
    | .stuck => .stuck
/-- d.clear() -/
def dclrR (i : Nat) (p : List E) (δ : List D) : RX := match δ[i]? with
  | none => .stuck
  | some .dead => .stuck
  | some d => match pthD fn gl p δ d with
    | .ok js => (match atP d js with
      | some (.box true (.dk _) _) => .ok .non (δ.set i (setP d js (.box true (.dk []) [])))
      | _ => .stuck)
    | .exc c fs => .exc c fs δ
    | .stuck => .stuck
def fldIx (f : Str) (ns : List Str) : Option Nat := ns.findIdx? fun n => decide (n = f)
def lstAt (ds : List D) (j : Nat) : Bool := match ds[j]? with
  | some (.box true .lst _) => true
  | _ => false
def mutpE (δ : List D) (i : Nat) (c : Str) (ns : List Str) (ds : List D) (j1 j2 : Nat) (d : D) : RX := match ds[j1]?, ds[j2]? with
  | some (.box true .lst xs), some (.box true .lst ys) => (match ys.getLast? with
    | some y => if xs.length < sizeLine then .ok .non (δ.set i (.box true (.ob c ns) ((ds.set j2 (.box true .lst ys.dropLast)).set j1 (.box true .lst (xs ++ [.tup [d, y]]))))) else .stuck
    | none => .stuck)
  | _, _ => .stuck
def Res.rxd (δ : List D) (f : D → RX) : Res D → RX
  | .ok d => f d
  | .exc c fs => .exc c fs δ
  | .stuck => .stuck
/-- x.f.append((e, x.f2.pop())) -/
def mutpR (i : Nat) (f f2 : Str) (e : E) (δ : List D) : RX := match δ[i]? with
  | some (.box true (.ob c ns) ds) => (match fldIx f ns, fldIx f2 ns with
    | some j1, some j2 => if j1 = j2 ∨ !lstAt ds j1 then .stuck else (evl fn gl e δ).rxd δ (mutpE δ i c ns ds j1 j2)
    | _, _ => .stuck)
  | _ => .stuck
/-- slot j's value is moved to the end of a list -/
def mutmR (i : Nat) (p : List E) (j : Nat) (δ : List D) : RX := match δ[j]? with
  | none => .stuck
  | some .dead => .stuck
  | some y => match δ[i]? with
    | none => .stuck
    | some .dead => .stuck
    | some d => match pthD fn gl p δ d with
      | .ok js => (match atP d js with
        | none => .stuck
        | some b => if isOwn b then RX.opt ((mopD .app b [y]).map fun r => (r.1, (δ.set i (setP d js r.2)).set j .dead)) else .stuck)
      | .exc c fs => .exc c fs δ
      | .stuck => .stuck
/-- where the argument's box lies -/
abbrev Plc := Option (Nat × List Nat)
/-- a box at a path of slot i -/
def ioK (d : D) (i : Nat) (js : List Nat) : Res (D × Plc) := match atP d js with
  | none => .stuck
  | some b => if isOb b then .ok (b, some (i, js)) else .stuck
def ioR (i : Nat) (p : List E) (δ : List D) : Res (D × Plc) := match δ[i]? with
  | none => .stuck
  | some .dead => .stuck
  | some d => (pthD fn gl p δ d).bind (ioK d i)
/-- the arguments -/
def argsD : List Arg → List D → Res (List (D × Plc))
  | [], _ => .ok []
  | .io i p :: as, δ => (ioR fn gl i p δ).bind fun x => (argsD as δ).bind fun r => .ok (x :: r)
  | .val e :: as, δ => (evl fn gl e δ).bind fun d => (argsD as δ).bind fun r => .ok ((d, none) :: r)
def putL (δ : List D) : List Plc → List D → List (Nat × D)
  | some (i, js) :: ps, b :: bs => (i, setP (δ.getD i .dead) js b) :: putL δ ps bs
  | none :: ps, _ :: bs => putL δ ps bs
  | _, _ => []
def setL (δ : List D) : List (Nat × D) → List D
  | [] => δ
  | x :: r => setL (δ.set x.1 x.2) r
def putAll (δ : List D) (ps : List Plc) (bs : List D) : List D := setL δ (putL δ ps bs)
def plIx : List Plc → List Nat
  | [] => []
  | some (i, _) :: ps => i :: plIx ps
  | none :: ps => plIx ps
def dstN : List Nat → Bool
  | [] => true
  | i :: is => !is.contains i && dstN is
/-- the call's end -/
def xcE (δ : List D) (ps : List Plc) : Res D → RX
  | .ok (.tup (d :: bs)) => if bs.length = ps.length then .ok d (putAll δ ps bs) else .stuck
  | .exc c bs => if bs.length = ps.length then .exc c [] (putAll δ ps bs) else .stuck
  | _ => .stuck
/-- whose method -/
def recB (c : Str) : D × Plc → Bool
  | (.box true (.ob c' _) _, _) => decide (c' = c)
  | _ => false
def xcL (F : List D → Res D) (δ : List D) (l : List (D × Plc)) : RX := if dstN (plIx (l.map (·.2))) then xcE δ (l.map (·.2)) (F (l.map (·.1))) else .stuck
def Res.rx {α : Type} (δ : List D) (f : α → RX) : Res α → RX
  | .ok d => f d
  | .exc c fs => .exc c fs δ
  | .stuck => .stuck
def xcR (m : Str) (as : List Arg) (δ : List D) : RX := match fn (keyX Str.empty m) with
  | none => .stuck
  | some F => (argsD fn gl as δ).rx δ (xcL F δ)
def xcmG (c : Str) (F : List D → Res D) (r : Res (List (D × Plc))) (δ : List D) (x : D × Plc) : RX := if recB c x then r.rx δ fun l => xcL F δ (x :: l) else .stuck
def xcmR (c m : Str) (i : Nat) (p : List E) (as : List Arg) (δ : List D) : RX := match fn (keyX c m) with
  | none => .stuck
  | some F => (ioR fn gl i p δ).rx δ (xcmG c F (argsD fn gl as δ) δ)
def RX.bind : RX → (D → List D → RX) → RX
  | .ok d δ, f => f d δ
  | .exc c fs δ, _ => .exc c fs δ
  | .stuck, _ => .stuck
/-- x.append(what changes boxes of other slots) -/
def mutxE (i : Nat) (d0 : D) (x : D) (δ : List D) : RX := match d0, δ[i]? with
  | .box true .lst ys, some (.box true .lst zs) => if ys.length = zs.length ∧ ys.length < sizeLine then .ok .non (δ.set i (.box true .lst (zs ++ [x]))) else .stuck
  | _, _ => .stuck
/-- expressions that change boxes -/
def evx : X → List D → RX
  | .mut i p m args, δ => mutR fn gl i p m args δ
  | .mutt o m args, δ => muttR fn gl o m args δ
  | .mutm i p j, δ => mutmR fn gl i p j δ
  | .xc m as, δ => xcR fn gl m as δ
  | .xcm c m i p as, δ => xcmR fn gl c m i p as δ
  | .mutx i x, δ => match δ[i]? with
    | some (.box true .lst ys) => (evx x δ).bind fun d δ' => mutxE i (.box true .lst ys) d δ'
    | _ => .stuck
  | .mutp i f f2 e, δ => mutpR fn gl i f f2 e δ
  | .dpop i p k, δ => dpopR fn gl i p k δ
  | .dclr i p, δ => dclrR fn gl i p δ
  | .ev e, δ => (evl fn gl e δ).rxd δ fun d => .ok d δ
  | .anil, δ => .ok (.tup []) δ
  | .acons x r, δ => (evx x δ).bind fun d δ1 => (evx r δ1).bind fun ds δ2 => .ok (.tup (d :: unT ds)) δ2
  | .cl f a, δ => match fn f with
    | none => .stuck
    | some F => (evx a δ).bind fun ds δ1 => (lend F (unT ds)).rxd δ1 fun d => .ok d δ1
  | .ixt x e, δ => (evx x δ).bind fun d δ1 => (ev fn gl e δ1).rxd δ1 fun i => (ixtD d i).rxd δ1 fun y => .ok y δ1
  | .tp a, δ => (evx a δ).bind fun ds δ1 => if (unT ds).length ≤ sizeLine then .ok (.tup (unT ds)) δ1 else .stuck
end
def cndX (d : D) (a b : RX) : RX := match d with
  | .bl true => a
  | .bl false => b
  | _ => .stuck
def notX (d : D) (δ : List D) : RX := match d with
  | .bl b => .ok (.bl (!b)) δ
  | _ => .stuck
/-- tests that may change boxes -/
def evy (fn : Str → Option (List D → Res D)) (gl : Str → Option D) : Y → List D → RX
  | .t e, δ => (ev fn gl e δ).rxd δ fun d => .ok d δ
  | .x x, δ => evx fn gl x δ
  | .not_ y, δ => (evy fn gl y δ).bind notX
  | .and_ a b, δ => (evy fn gl a δ).bind fun d δ' => cndX d (evy fn gl b δ') (.ok (.bl false) δ')
  | .or_ a b, δ => (evy fn gl a δ).bind fun d δ' => cndX d (.ok (.bl true) δ') (evy fn gl b δ')
  | .one y, δ => evy fn gl y δ
def hotR : Res D → Out
  | .ok d => if d.cl then .rt d else .stuck
  | _ => .stuck
def hotX (δ : List D) : Res D → Out
  | .ok d => if d.cl then .rtx d δ else .stuck
  | _ => .stuck
/-- try: .. except cs: raise c from None -/
def tryRO (ex : Xs) (cs : List Str) (c : Str) : Out → Out
  | .exc c' fs δ => if ex.rs.contains c' && fs.isEmpty then (if cs.any (subX c') then .exc c [] δ else .exc c' fs δ) else .stuck
  | r => r
def frzpD (js : List Nat) (d : D) : Option D := (atP d js).map fun b => setP d js b.frz
def putfB (fs : List (Str × Str)) (f : Str) (d : D) : D → Option D
  | .box true (.ob c ns) ds => if fs.contains (c, f) ∧ ns.length < 500 then some (.box true (.ob c (putNs f ns)) (putFs f d ns ds)) else none
  | _ => none
def putfGo (ex : Xs) (f : Str) (c : D) (js : List Nat) (δ : List D) (i : Nat) (b d : D) : Out := match putfB ex.fs f d b with
  | some b' => .nx (δ.set i (setP c js b'))
  | none => .stuck
def putfP (ex : Xs) (f : Str) (δ : List D) (i : Nat) (d c : D) : Res (List Nat) → Out
  | .ok js => (match atP c js with
    | none => .stuck
    | some b => putfGo ex f c js δ i b d)
  | .exc cc fs => .exc cc fs δ
  | .stuck => .stuck
def putfS (ex : Xs) (f : Str) (mp : List D → D → Res (List Nat)) (i : Nat) (δ : List D) (d : D) : Out := match δ[i]? with
  | none => .stuck
  | some .dead => .stuck
  | some c => putfP ex f δ i d c (mp δ c)
/-- try: .. except c: .. -/
def tryO (ex : Xs) (c : Str) (su : Str → List D → Out) : Out → Out
  | .exc c' fs δ => if ex.rs.contains c' && fs.isEmpty then (if subX c' c then su c' δ else .exc c' fs δ) else .stuck
  | r => r
def noExc : Out → Out
  | .exc _ _ _ => .stuck
  | r => r
def putGo (c : D) (js : List Nat) (δ : List D) (i : Nat) (b d y : D) : Out := match putB b y d with
  | some b' => .nx (δ.set i (setP c js b'))
  | none => .stuck
def putP (mk : List D → Res D) (δ : List D) (i : Nat) (d c : D) : Res (List Nat) → Out
  | .ok js => (match atP c js with
    | none => .stuck
    | some b => (mk δ).out δ (putGo c js δ i b d))
  | .exc cc fs => .exc cc fs δ
  | .stuck => .stuck
def putS (mk : List D → Res D) (mp : List D → D → Res (List Nat)) (i : Nat) (δ : List D) (d : D) : Out := match δ[i]? with
  | none => .stuck
  | some .dead => .stuck
  | some c => putP mk δ i d c (mp δ c)
section
variable (fn : Str → Option (List D → Res D)) (gl : Str → Option D) (ex : Xs)
/-- each list in slot i's list is changed alike -/
def splGo (i : Nat) (m : Mop) (args : E) : Nat → Nat → List D → Out
  | 0, _, δ => .nx δ
  | n + 1, k, δ => match δ[i]? with
    | some (.box true .lst ys) => (match ys[k]? with
      | some b => if isOwn b then (match ev fn gl args δ with
        | .ok a => (match mopD m b (unT a) with
          | some r => splGo i m args n (k + 1) (δ.set i (.box true .lst (ys.set k r.2)))
          | none => .stuck)
        | .exc c fs => .exc c fs δ
        | .stuck => .stuck) else .stuck
      | none => .stuck)
    | _ => .stuck
def exec : S → List D → Out
  | .skip, δ => .nx δ
  | .spl x i m args, δ => if i = x ∨ δ.length ≤ x then .stuck else match δ[i]? with
    | some (.box true .lst ys) => splGo fn gl i m args ys.length 0 (δ.set x .dead)
    | _ => .stuck
  | .seq a b, δ => (exec a δ).thn (exec b)
  | .asg i e, δ => (evl fn gl e δ).out δ fun d => .nx (δ.set i d)
  | .asgt is e, δ => (evl fn gl e δ).out δ fun d => match d with
    | .tup xs => if xs.length = is.length then .nx (setAll δ is xs) else .stuck
    | _ => .stuck
  | .app i e, δ => match δ[i]? with
    | some (.box true .lst xs) => (evl fn gl e δ).out δ fun d => if xs.length < sizeLine then .nx (δ.set i (.box true .lst (xs ++ [d]))) else .stuck
    | _ => .stuck
  | .put i p k e, δ => (evl fn gl e δ).out δ (putS (ev fn gl k) (pthD fn gl p) i δ)
  | .ife c a b, δ => (ev fn gl c δ).out δ fun d => cndO d (exec a δ) (exec b δ)
  | .for_ tg src b, δ => (evl fn gl src δ).out δ fun d => match itemsOf d with
    | none => .stuck
    | some xs => forGo (fun x δ => bindTg tg x δ) (exec b) xs δ
  | .wh n c b, δ => whGo (ev fn gl c) (exec b) n δ
  | .ret e, δ => (evl fn gl e δ).out δ .rt
  | .retv i, δ => match δ[i]? with
    | some .dead => .stuck
    | some d => .rt d
    | none => .stuck
  | .retN, _ => .rt .non
  | .ret2 i j, δ => if i = j then .stuck else match δ[i]?, δ[j]? with
    | some .dead, _ => .stuck
    | _, some .dead => .stuck
    | some a, some b => .rt (.tup [a, b])
    | _, _ => .stuck
  | .brk, δ => .bk δ
  | .cont, δ => .ct δ
  | .drop e, δ => (ev fn gl e δ).out δ fun _ => .nx δ
  | .rse c, δ => if ex.rs.contains c then .exc c [] δ else .stuck
  | .frz i, δ => match δ[i]? with
    | some d => .nx (δ.set i d.frz)
    | none => .stuck
  | .kill i, δ => .nx (δ.set i .dead)
  | .never, _ => .stuck
  | .xasg i x, δ => (evx fn gl x δ).out fun d δ => .nx (δ.set i d)
  | .try_ b c i e, δ => if ex.es.contains c && ex.cx then tryO ex c (fun c' δ => hotR (evl fn gl e (δ.set i (.exv c' [])))) (exec b δ) else .stuck
  | .tryN b c, δ => if ex.es.contains c then tryO ex c (fun _ _ => .rt .non) (exec b δ) else .stuck
  | .tryZ b, δ => noExc (exec b δ)
  | .xasgt is x, δ => (evx fn gl x δ).out fun d δ => match d with
    | .tup xs => if xs.length = is.length then .nx (setAll δ is xs) else .stuck
    | _ => .stuck
  | .xdrop x, δ => (evx fn gl x δ).out fun _ δ => .nx δ
  | .retx e, δ => (evl fn gl e δ).out δ fun d => .rtx d δ
  | .xret x, δ => (evx fn gl x δ).out fun d δ => .rtx d δ
  | .retxm x j, δ => match δ[j]? with
    | some .dead => .stuck
    | some d => .rtx (.tup [.str x, d]) (δ.set j .dead)
    | none => .stuck
  | .retm x j, δ => match δ[j]? with
    | some .dead => .stuck
    | some d => .rt (.tup [.str x, d])
    | none => .stuck
  | .retxN, δ => .rtx .non δ
  | .ify y a b, δ => (evy fn gl y δ).out fun d δ' => cndO d (exec a δ') (exec b δ')
  | .rety x, δ => (evx fn gl x δ).out fun d _ => .rt d
  | .tryx b c i e, δ => if ex.es.contains c && ex.cx then tryO ex c (fun c' δ => hotX (δ.set i .dead) (evl fn gl e (δ.set i (.exv c' [])))) (exec b δ) else .stuck
  | .tryR b cs c, δ => if (cs.all ex.es.contains) && ex.rs.contains c then tryRO ex cs c (exec b δ) else .stuck
  | .frzp i js, δ => match δ[i]? with
    | some d => (match frzpD js d with
      | some d' => .nx (δ.set i d')
      | none => .stuck)
    | none => .stuck
  | .putf i p f e, δ => (evl fn gl e δ).out δ (putfS ex f (pthD fn gl p) i δ)
end

/-! ### the look -/
def visB (sc : Scope) (x : Str) : Bool := match sc.names.lookup x with
  | some .local => true | some .cell => true | some .free => true | _ => false
def locB (sc : Scope) (x : Str) : Bool := match sc.names.lookup x with
  | some .local => true | some .cell => true | _ => false
def glB (sc : Scope) (x : Str) : Bool := match sc.names.lookup x with
  | some .globalImplicit => !(x == ("__debug__" : Str)) && !(x == ("__name__" : Str))
  | _ => false
def nodbg (x : Str) : Bool := !(x == ("__debug__" : Str)) && !(x == ("__classdict__" : Str))
def notStar : Expr → Bool
  | .Starred _ _ => false
  | _ => true
def notSet : Expr → Bool
  | .Set _ _ _ => false
  | _ => true
def notLC : Expr → Bool
  | .ListComp _ _ _ _ => false | .SetComp _ _ _ _ => false | .DictComp _ _ _ _ _ => false
  | _ => true
def notCall : Expr → Bool
  | .Call (.Name _ _) [] [] _ => false
  | _ => true
def notSlice : Expr → Bool
  | .Slice _ _ _ _ => false
  | _ => true
/-- its test is its value's truth -/
def plainT : Expr → Bool
  | .UnaryOp .Not _ _ => false | .BoolOp _ _ _ => false | .IfExp _ _ _ _ => false | .Compare _ _ _ _ => false
  | _ => true
def notIf : Expr → Bool
  | .IfExp _ _ _ _ => false
  | _ => true
def bopE : Bop → Operator → Bool
  | .add, .Add => true | .sub, .Sub => true | .mul, .Mult => true | .fdiv, .FloorDiv => true | .mod, .Mod => true | .pow, .Pow => true
  | _, _ => false
def copE : Cop → CmpOp → Bool
  | .eq, .Eq => true | .ne, .NotEq => true | .lt, .Lt => true | .le, .LtE => true | .gt, .Gt => true | .ge, .GtE => true | .is_, .Is => true | .isn, .IsNot => true | .in_, .In => true | .nin, .NotIn => true
  | _, _ => false
def ixOf (N : List Str) (x : Str) : Option Nat := N.findIdx? fun y => decide (y = x)
/-- a comprehension's own names, with their places -/
def ownP (N : List Str) (sc : Scope) : List (Str × Nat) := sc.names.filterMap fun p => match p.2 with
  | .local => (ixOf N p.1).map fun i => (p.1, i)
  | .cell => (ixOf N p.1).map fun i => (p.1, i)
  | _ => none
def nmB (N : List Str) (sc : Scope) (i : Nat) (x : Str) : Bool := decide (N[i]? = some x) && locB sc x
def nmsB (N : List Str) (sc : Scope) : List Nat → List Expr → Bool
  | [], [] => true
  | i :: is, .Name x _ :: es => nmB N sc i x && nmsB N sc is es
  | _, _ => false
def tgB (N : List Str) (sc : Scope) : Tg → Expr → Bool
  | .nm i, .Name x _ => nmB N sc i x
  | .tp is, .Tuple es _ _ => nmsB N sc is es
  | _, _ => false
def tgL : Tg → List Nat
  | .nm i => [i]
  | .tp is => is
def tgO (own : List Nat) (tg : Tg) : Bool := (tgL tg).all fun i => decide (i ∈ own)
def isRv : Expr → Bool
  | .Slice none none (some (.UnaryOp .USub (.Constant (.int i) _ _) _)) _ => decide (i = 1)
  | _ => false
def isiB (t : Str) : Bool := t == "bool" || (t == "str" || (t == "list" || (t == "tuple" || t == "int")))
/-- what runs while an exception is handled -/
def hotE : E → Bool
  | .loc _ => true | .int _ => true | .str _ => true | .bl _ => true | .non => true
  | .one a => hotE a | .not_ a => hotE a | .isx a _ => hotE a
  | .bin _ a b => hotE a && hotE b
  | .knil => true | .nil => true
  | .kcons a r => hotE a && hotE r | .cons a r => hotE a && hotE r
  | .tup a => hotE a | .lst a => hotE a
  | .call f a => decide (f = "_law_kinds") && hotE a
  | .lcl _ _ src c e => hotE src && (hotE c && hotE e)
  | _ => false
def hotS : S → Bool
  | .skip => true
  | .seq a b => hotS a && hotS b
  | .asg _ e => hotE e
  | .ret e => hotE e
  | .frz _ => true | .kill _ => true
  | _ => false
mutual
def chE (N : List Str) (sc : Scope) : E → Expr → Bool
  | .loc i, .Name x _ => decide (N[i]? = some x) && visB sc x && nodbg x
  | .int i, .Constant (.int j) _ _ => decide (i = j)
  | .str x, .Constant (.str y) _ _ => decide (x = y)
  | .bl b, .Constant (.bool c) _ _ => b == c
  | .non, .Constant .none _ _ => true
  | .glb x, .Name y _ => decide (x = y) && glB sc x
  | .bin o a b, .BinOp x op y _ => bopE o op && (chE N sc a x && chE N sc b y)
  | .neg a, .UnaryOp .USub x _ => chE N sc a x
  | .cmp o a b, .Compare x [op] [y] _ => copE o op && (notSet y && (chE N sc a x && chE N sc b y))
  | .and_ a b, .BoolOp .And (x :: y :: r) _ => notIf x && (chE N sc a x && chB N sc .And b (y :: r))
  | .or_ a b, .BoolOp .Or (x :: y :: r) _ => notIf x && (chE N sc a x && chB N sc .Or b (y :: r))
  | .not_ a, .UnaryOp .Not x _ => notIf x && chE N sc a x
  | .ite c a b, .IfExp x y z _ => (notIf x && chE N sc c x) && (chE N sc a y && chE N sc b z)
  | .ix a b, .Subscript x y _ => notSlice y && (chE N sc a x && chE N sc b y)
  | .sl a lo hi, .Subscript x (.Slice l h none _) _ => chE N sc a x && (chP N sc lo l && chP N sc hi h)
  | .rv a, .Subscript x y _ => isRv y && chE N sc a x
  | .tup es, .Tuple xs _ _ => chKs N sc es xs
  | .lst es, .List xs _ => chKs N sc es xs
  | .dn _, .Dict [] [] _ => true
  | .get o k x, .Call (.Attribute a n ap) [y, z] [] p => decide (n = "get") && ((ap.endLine == p.line) && (notCall a && (notStar y && (notStar z && (chE N sc o a && (chE N sc k y && chE N sc x z))))))
  | .fz a, .Call f xs kws p => !a.view && chE N sc a (.Call f xs kws p)
  | .fz a, .List xs p => !a.view && chE N sc a (.List xs p)
  | .skeys o, .Call (.Name g _) [.Call (.Attribute x n ap) [] [] p] [] _ => decide (g = "sorted") && (glB sc g && (decide (n = "keys") && ((ap.endLine == p.line) && (notCall x && chE N sc o x))))
  | .lix _ o a, .Call (.Attribute x n ap) [y] [] p => decide (n = "index") && ((ap.endLine == p.line) && (notCall x && (notStar y && (chE N sc o x && chE N sc a y))))
  | .mz m o, .Call (.Attribute x n ap) [] [] p => decide (n = mzName m) && ((ap.endLine == p.line) && (notCall x && chE N sc o x))
  | .call f es, .Call (.Name g _) (x :: xs) [] _ => (bare f && decide (f = g)) && (glB sc f && chEs N sc es (x :: xs))
  | .fld a f, .Attribute x g _ => decide (f = g) && (notCall x && chE N sc a x)
  | .ixt a b, .Subscript x y _ => !a.view && (notSlice y && (chE N sc a x && chE N sc b y))
  | .new c es, .Call (.Name g _) (x :: xs) [] _ => (bare c && (!decide (c = Str.empty) && decide (c = g))) && (glB sc c && chEs N sc es (x :: xs))
  | .meth c m o es, .Call (.Attribute x n ap) xs [] p => (bare c && (decide (m = n) && !decide (m = "__init__"))) && ((ap.endLine == p.line) && (decide (xs.length < 29) && (notCall x && (chE N sc o x && chEs N sc es xs))))
  | .dcp a, .Call (.Name g _) [x] [] _ => decide (g = "dict") && (glB sc g && (notStar x && chE N sc a x))
  | .blt b es, .Call (.Name g _) (x :: xs) [] _ => decide (g = bltName b) && (glB sc g && chEs N sc es (x :: xs))
  | .isi a t, .Call (.Name g _) [x, .Name u _] [] _ => decide (g = "isinstance") && (glB sc g && (decide (u = t) && (glB sc u && (isiB t && (notStar x && chE N sc a x)))))
  | .isx a u, .Call (.Name g _) [x, .Name v _] [] _ => decide (g = "isinstance") && (glB sc g && (decide (v = u) && (glB sc v && (notStar x && chE N sc a x))))
  | .lcl own tg src c e, .ListComp elt [⟨t, it, ifs, as⟩] scope _ => decide (as = 0) && (blkC N sc scope (ownP N scope) && (decide (own = (ownP N scope).map (·.2)) && (notSet it && (chE N sc src it && (tgO own tg && (tgB N scope tg t && (chC N (relS scope sc) c ifs && chE N (relS scope sc) e elt)))))))
  | .mth m o a, .Call (.Attribute x n ap) [y] [] p => decide (n = mthName m) && ((ap.endLine == p.line) && (notCall x && (notStar y && (chE N sc o x && chE N sc a y))))
  | .lc own tg src c e, .ListComp elt [⟨t, it, ifs, as⟩] scope _ => decide (as = 0) && (blkC N sc scope (ownP N scope) && (decide (own = (ownP N scope).map (·.2)) && (chI N sc tg src it && (tgO own tg && (tgB N scope tg t && (chC N (relS scope sc) c ifs && chE N (relS scope sc) e elt))))))
  | _, _ => false
def chB (N : List Str) (sc : Scope) (op : BoolOp) : E → List Expr → Bool
  | .one a, [x] => notIf x && chE N sc a x
  | .and_ a b, x :: y :: r => (match op with | .And => true | .Or => false) && (notIf x && (chE N sc a x && chB N sc op b (y :: r)))
  | .or_ a b, x :: y :: r => (match op with | .And => false | .Or => true) && (notIf x && (chE N sc a x && chB N sc op b (y :: r)))
  | _, _ => false
def chP (N : List Str) (sc : Scope) : E → Option Expr → Bool
  | .non, none => true
  | .one a, some x => chE N sc a x
  | _, _ => false
def chEs (N : List Str) (sc : Scope) : E → List Expr → Bool
  | .nil, [] => true
  | .cons a r, x :: xs => notStar x && (chE N sc a x && chEs N sc r xs)
  | _, _ => false
def chKs (N : List Str) (sc : Scope) : E → List Expr → Bool
  | .knil, [] => true
  | .kcons a r, x :: xs => notStar x && (chE N sc a x && chKs N sc r xs)
  | _, _ => false
/-- a comprehension's test: none, or one -/
def chC (N : List Str) (sc : Scope) : E → List Expr → Bool
  | .bl true, [] => true
  | .one a, [x] => notIf x && chE N sc a x
  | _, _ => false
/-- what is walked -/
def chI (N : List Str) (sc : Scope) (tg : Tg) : E → Expr → Bool
  | .rng1 a, .Call (.Name g _) [x] [] _ => decide (g = "range") && (glB sc g && (notStar x && chE N sc a x))
  | .rng2 a b, .Call (.Name g _) [x, y] [] _ => decide (g = "range") && (glB sc g && (notStar x && (notStar y && (chE N sc a x && chE N sc b y))))
  | .rng3 a b, .Call (.Name g _) [x, y, .UnaryOp .USub (.Constant (.int i) _ _) _] [] _ => decide (i = 1) && (decide (g = "range") && (glB sc g && (notStar x && (notStar y && (chE N sc a x && chE N sc b y)))))
  | .zip3 a b c, .Call (.Name g _) [x, y, z] [] _ => (match tg with | .tp _ => true | .nm _ => false) && (decide (g = "zip") && (glB sc g && (notStar x && (notStar y && (notStar z && (chE N sc a x && (chE N sc b y && chE N sc c z)))))))
  | .zip2 a b, .Call (.Name g _) [x, y] [] _ => (match tg with | .tp _ => true | .nm _ => false) && (decide (g = "zip") && (glB sc g && (notStar x && (notStar y && (chE N sc a x && chE N sc b y)))))
  | .enum a, .Call (.Name g _) [x] [] _ => (match tg with | .tp _ => true | .nm _ => false) && (decide (g = "enumerate") && (glB sc g && (notStar x && chE N sc a x)))
  | .revd a, .Call (.Name g _) [x] [] _ => decide (g = "reversed") && (glB sc g && (notStar x && chE N sc a x))
  | .one a, x => notSet x && chE N sc a x
  | _, _ => false
end
/-- name = [..] on one line -/
def swB (x : Str) (l : Nat) : Expr → Bool
  | .ListComp _ _ scope pos => (l == pos.line) && !(scope.names.any fun (n, k) => n == x && (k == .local || k == .cell))
  | _ => false
/-- name = [..], the name no plain local -/
def swF (sc : Scope) (x : Str) (l : Nat) : Expr → Bool
  | .ListComp _ _ scope pos => !(decide (sc.names.lookup x = some .local) && ((l == pos.line) && !(scope.names.any fun (n, k) => n == x && (k == .local || k == .cell))))
  | _ => false
/-- the box at a path of name x; the path from its end -/
def chPr (N : List Str) (sc : Scope) (i : Nat) : List E → Expr → Bool
  | [], .Name x _ => decide (N[i]? = some x) && (visB sc x && nodbg x)
  | .fl f :: r, .Attribute o g _ => decide (f = g) && (notCall o && chPr N sc i r o)
  | e :: r, .Subscript o y _ => notSlice y && (chE N sc e y && chPr N sc i r o)
  | _, _ => false
def chPt (N : List Str) (sc : Scope) (i : Nat) (p : List E) (x : Expr) : Bool := chPr N sc i p.reverse x
def chNm (N : List Str) (sc : Scope) (i : Nat) (x : Str) : Bool := decide (N[i]? = some x) && (visB sc x && nodbg x)
def chAs (N : List Str) (sc : Scope) : List Arg → List Expr → Bool
  | [], [] => true
  | .io i p :: r, x :: xs => notStar x && (chPt N sc i p x && chAs N sc r xs)
  | .val e :: r, x :: xs => notStar x && (chE N sc e x && chAs N sc r xs)
  | _, _ => false
mutual
def chX (N : List Str) (sc : Scope) : X → Expr → Bool
  | .mut i p m args, .Call (.Attribute o n ap) xs [] q => decide (n = mopName m) && ((ap.endLine == q.line) && (decide (xs.length = mopN m) && (chPt N sc i p o && chKs N sc args xs)))
  | .mutm i p j, .Call (.Attribute o n ap) [.Name y _] [] q => decide (n = "append") && ((ap.endLine == q.line) && (chPt N sc i p o && (decide (i ≠ j) && (decide (N[j]? = some y) && (visB sc y && nodbg y)))))
  | .mutt e m args, .Call (.Attribute o n ap) xs [] q => decide (n = mopName m) && ((ap.endLine == q.line) && (decide (xs.length = mopN m) && (notCall o && (chE N sc e o && chKs N sc args xs))))
  | .xcm c m i p r, .Call (.Attribute o n ap) xs [] q => !decide (c = Str.empty) && (bare c && ((decide (n = m) && !decide (m = "__init__")) && ((ap.endLine == q.line) && (decide (xs.length < 29) && (chPt N sc i p o && chAs N sc r xs)))))
  | .xc m as, .Call (.Name g _) (x :: xs) [] _ => decide (g = m) && (glB sc g && chAs N sc as (x :: xs))
  | .mutx i x, .Call (.Attribute (.Name y _) n ap) [v] [] q => decide (n = "append") && ((ap.endLine == q.line) && (chNm N sc i y && (notStar v && chX N sc x v)))
  | .mutp i f f2 e, .Call (.Attribute (.Attribute (.Name y _) g _) n ap) [.Tuple [a, .Call (.Attribute (.Attribute (.Name z _) g2 _) n2 ap2) [] [] q2] _ _] [] q =>
    (decide (n = "append") && (decide (n2 = "pop") && (decide (g = f) && decide (g2 = f2)))) && (((ap.endLine == q.line) && (ap2.endLine == q2.line)) && ((chNm N sc i y && chNm N sc i z) && (notStar a && chE N sc e a)))
  | .dclr i p, .Call (.Attribute o n ap) [] [] q => decide (n = "clear") && ((ap.endLine == q.line) && chPt N sc i p o)
  | .dpop i p k, .Call (.Attribute o n ap) [y] [] q => decide (n = "pop") && ((ap.endLine == q.line) && (notStar y && (chPt N sc i p o && chE N sc k y)))
  | .cl f a, .Call (.Name g _) (x :: xs) [] _ => (bare f && decide (f = g)) && (glB sc f && chXs N sc a (x :: xs))
  | .ixt x e, .Subscript y z _ => notSlice z && (chX N sc x y && chE N sc e z)
  | .tp a, .Tuple xs _ _ => chXs N sc a xs
  | .ev e, x => chE N sc e x
  | _, _ => false
def chXs (N : List Str) (sc : Scope) : X → List Expr → Bool
  | .anil, [] => true
  | .acons x r, y :: ys => notStar y && (chX N sc x y && chXs N sc r ys)
  | _, _ => false
end
mutual
def chY (N : List Str) (sc : Scope) : Y → Expr → Bool
  | .t e, x => notIf x && chE N sc e x
  | .x v, x => plainT x && chX N sc v x
  | .not_ y, .UnaryOp .Not x _ => chY N sc y x
  | .and_ a b, .BoolOp .And (x :: y :: r) _ => chY N sc a x && chYb N sc .And b (y :: r)
  | .or_ a b, .BoolOp .Or (x :: y :: r) _ => chY N sc a x && chYb N sc .Or b (y :: r)
  | _, _ => false
def chYb (N : List Str) (sc : Scope) (op : BoolOp) : Y → List Expr → Bool
  | .one a, [x] => chY N sc a x
  | .and_ a b, x :: y :: r => (match op with | .And => true | .Or => false) && (chY N sc a x && chYb N sc op b (y :: r))
  | .or_ a b, x :: y :: r => (match op with | .And => false | .Or => true) && (chY N sc a x && chYb N sc op b (y :: r))
  | _, _ => false
end
def notLcl : E → Bool
  | .lcl _ _ _ _ _ => false
  | _ => true
def notTup : Expr → Bool
  | .Tuple _ _ _ => false
  | _ => true
def rseB (c : Str) : Option Expr → Option Expr → Bool
  | some (.Call (.Name x _) [.Constant (.str _) _ _] [] _), none => decide (c = x)
  | _, _ => false
mutual
def chS (N : List Str) (sc : Scope) : S → Stmt → Bool
  | .skip, .Pass _ => true
  | .skip, .Expr (.Constant (.str _) _ _) _ => true
  | .asg i e, .Assign [.Name x px] v p => nmB N sc i x && (notLcl e && chE N sc e v && (notLC v || (((decide (sc.names.lookup x = some .local)) && swB x px.line v) || swF sc x px.line v)))
  | .asgt is e, .Assign [.Tuple es _ _] v _ => nmsB N sc is es && (chE N sc e v && (notLC v && notTup v))
  | .app i e, .Expr (.Call (.Attribute (.Name x _) n ap) [v] [] p) _ => nmB N sc i x && (nodbg x && (decide (n = "append") && ((ap.endLine == p.line) && (notStar v && chE N sc e v))))
  | .put i pt k e, .Assign [.Subscript o y _] v p => chPt N sc i pt o && (notSlice y && (chE N sc k y && chE N sc e v))
  | .never, _ => true
  | .xasg i e, .Assign [.Name x _] v _ => nmB N sc i x && (chX N sc e v && notLC v)
  | .xasgt is e, .Assign [.Tuple es _ _] v _ => nmsB N sc is es && (chX N sc e v && (notLC v && notTup v))
  | .xdrop e, .Expr x _ => chX N sc e x && notLC x
  | .ife c a b, .If x ss ts _ => (notIf x && chE N sc c x) && (chSs N sc a ss && chSs N sc b ts)
  | .spl x i m args, .For t (.Name y _) [.Expr (.Call (.Attribute (.Name x2 _) n ap) xs [] q) _] [] _ => tgB N sc (.nm x) t && ((decide (N[i]? = some y) && (visB sc y && nodbg y)) && ((decide (N[x]? = some x2) && (visB sc x2 && nodbg x2)) && (decide (n = mopName m) && ((ap.endLine == q.line) && (decide (xs.length = mopN m) && chKs N sc args xs)))))
  | .for_ tg src b, .For t it ss [] _ => tgB N sc tg t && (chI N sc tg src it && (notSet it && chSs N sc b ss))
  | .wh _ c b, .While x ss [] _ => (notIf x && chE N sc c x) && chSs N sc b ss
  | .ret e, .Return (some x) _ => chE N sc e x
  | .retv i, .Return (some (.Name x _)) _ => decide (N[i]? = some x) && (visB sc x && nodbg x)
  | .retN, .Return none _ => true
  | .ret2 i j, .Return (some (.Tuple [.Name x _, .Name y _] _ _)) _ => (decide (N[i]? = some x) && (visB sc x && nodbg x)) && (decide (N[j]? = some y) && (visB sc y && nodbg y))
  | .brk, .Break _ => true
  | .cont, .Continue _ => true
  | .drop e, .Expr x _ => chE N sc e x && notLC x
  | .rse c, .Raise a b _ => rseB c a b && glB sc c
  | .try_ b c i e, .Try body [.ExceptHandler (some (.Name x _)) (some n) [.Return (some y) _] _] [] [] _ => decide (c = x) && (glB sc c && (decide (N[i]? = some n) && (decide (sc.names.lookup n = some .local) && (chSs N sc b body && (hotE e && chE N sc e y)))))
  | .tryN b c, .Try body [.ExceptHandler (some (.Name x _)) none [.Return (some (.Constant .none _ _)) _] _] [] [] _ => decide (c = x) && (glB sc c && chSs N sc b body)
  | .tryZ b, .Try body (_ :: _) [] [] _ => chSs N sc b body
  | .retx e, .Return (some x) _ => chE N sc e x
  | .xret x, .Return (some v) _ => chX N sc x v
  | .retxm x j, .Return (some (.Tuple [.Constant (.str y) _ _, .Name z _] _ _)) _ => decide (x = y) && chNm N sc j z
  | .retm x j, .Return (some (.Tuple [.Constant (.str y) _ _, .Name z _] _ _)) _ => decide (x = y) && chNm N sc j z
  | .retxN, .Return none _ => true
  | .rety x, .Return (some v) _ => chX N sc x v
  | .ify y a b, .If x ss ts _ => chY N sc y x && (chSs N sc a ss && chSs N sc b ts)
  | .tryx b c i e, .Try body [.ExceptHandler (some (.Name x _)) (some n) [.Return (some y) _] _] [] [] _ => decide (c = x) && (glB sc c && (decide (N[i]? = some n) && (decide (sc.names.lookup n = some .local) && (chSs N sc b body && (hotE e && chE N sc e y)))))
  | .putf i p f e, .Assign [.Attribute o g _] v _ => decide (f = g) && (chPt N sc i p o && chE N sc e v)
  | _, _ => false
def chSs (N : List Str) (sc : Scope) : S → List Stmt → Bool
  | .skip, [] => true
  | .seq (.frz _) b, ss => chSs N sc b ss
  | .seq (.kill _) b, ss => chSs N sc b ss
  | .seq (.frzp _ _) b, ss => chSs N sc b ss
  | .seq a b, s :: ss => chS N sc a s && chSs N sc b ss
  | _, _ => false
end
end PX

/-! PX, part c: readings by the evaluator; the frame of the proof. -/
namespace PX
open PySem PySem.Spec PyProof.Rows L2

/-! ### forms of the text -/
theorem star_of {x : Expr} {es : List Expr} {env : Env} (h : notStar x = true) : starEach (x :: es) env = (false, eval x env) :: starEach es env := by
  cases x <;> first | rfl | cases h
theorem set_of {x : Expr} {env : Env} (h : notSet x = true) : ∀ v, foldedSetIterable x env v = pure v := by
  intro v
  cases x <;> first | rfl | cases h
theorem slice_of {x : Expr} (h : notSlice x = true) (o i : Value) : subscripted x false o i = operate [o, i] (getItem o i) := by
  cases x <;> first | rfl | cases h
theorem mark_of {op : CmpOp} {x : Expr} (h : notSet x = true) : behindInMarks op x = false := by
  cases x <;> first | rfl | cases h
theorem lc_of {x : Expr} {t : Option Expr} {l : Nat} {env : Env} (h : notLC x = true) : swapsWith x t l env = pure false := by
  cases x <;> first | rfl | cases h
theorem base_of {x : Expr} {n : Str} {env : Env} (h : notCall x = true) : attributeBase x n env (eval x env) = eval x env := by
  cases x with
  | Call f a k p => cases f <;> cases a <;> cases k <;> first | rfl | cases h
  | _ => rfl
theorem plain_of {x : Expr} {env : Env} (h : plainT x = true) : ∀ whole, isTrue x env whole = (do let v ← whole; standAt x.pos; holding [v] (truthy v)) := by
  intro whole
  cases x with
  | UnaryOp op a p => cases op <;> first | rfl | cases h
  | _ => first | rfl | cases h
theorem and_t {a b : Bool} (h : (a && b) = true) : a = true ∧ b = true := Bool.and_eq_true_iff.mp h

/-! ### how the heap grows -/
structure Grow (F H F' H' : Hp) : Prop where
  ff : Same F F'
  fh : Same F' H'
  hh : Same H H'
  only : ∀ p, H p ≠ none → F' p = F p
theorem Grow.refl {F H : Hp} (h : Same F H) : Grow F H F H := ⟨Same.refl F, h, Same.refl H, fun _ _ => rfl⟩
theorem some_of_same {H H' : Hp} (h : Same H H') {p : Addr} (q : H p ≠ none) : H' p ≠ none := by
  cases e : H p with
  | none => exact absurd e q
  | some o =>
    rw [h p o e]
    simp
theorem Grow.trans {F H F1 H1 F2 H2 : Hp} (a : Grow F H F1 H1) (b : Grow F1 H1 F2 H2) : Grow F H F2 H2 :=
  ⟨a.ff.trans b.ff, b.fh, a.hh.trans b.hh, fun p q => (b.only p (some_of_same a.hh q)).trans (a.only p q)⟩
theorem Grow.fresh {F H F' H' : Hp} (a : Grow F H F' H') {p : Addr} (h : H' p = none) : H p = none := by
  cases e : H p with
  | none => rfl
  | some o =>
    rw [a.hh p o e] at h
    cases h
theorem Grow.r {K : Kx} {F H F' H' : Hp} (g : Grow F H F' H') {v : V} {d : D} {fp : List Addr} (h : R K F H v d fp) : R K F' H' v d fp :=
  h.mono g.ff (fun _ _ => same_tup g.hh) fun p hp => by
    obtain ⟨e, k, o, vs, e2, _⟩ := h.there p hp
    exact ⟨(g.hh p o e2).trans e2.symm, (g.only p (by rw [e2]; simp)).trans e⟩
theorem Grow.rs {K : Kx} {F H F' H' : Hp} (g : Grow F H F' H') {v : List V} {d : List D} {fp : List Addr} (h : Rs K F H v d fp) : Rs K F' H' v d fp :=
  h.mono g.ff (fun _ _ => same_tup g.hh) fun p hp => by
    obtain ⟨e, k, o, vs, e2, _⟩ := h.there p hp
    exact ⟨(g.hh p o e2).trans e2.symm, (g.only p (by rw [e2]; simp)).trans e⟩
theorem same_new {H : Hp} {p : Addr} {o : HO} (h : H p = none) : Same H (upd H p o) := fun b x e => by
  rw [upd_ne (ne_of_none e h)]
  exact e
/-- a new object, not frozen -/
theorem Grow.new {F H : Hp} (h : Same F H) {p : Addr} {o : HO} (n : H p = none) : Grow F H F (upd H p o) :=
  ⟨Same.refl F, h.trans (same_new n), same_new n, fun _ _ => rfl⟩
theorem not_frozen {F H : Hp} (h : Same F H) {p : Addr} (n : H p = none) : F p = none := by
  cases e : F p with
  | none => rfl
  | some o =>
    rw [h p o e] at n
    cases n

/-! ### the slots -/
structure SR (K : Kx) (F H : Hp) (σ : L2.St) (δ : List D) (g : Nat → List Addr) : Prop where
  len : σ.length = δ.length
  rel : ∀ i d, δ[i]? = some d → d ≠ .dead → ∃ v, σ[i]? = some (some v) ∧ R K F H v d (g i)
  dis : ∀ i j, i ≠ j → ∀ p ∈ g i, p ∉ g j
  own : ∀ i, ∀ p ∈ g i, F p = none ∧ ∃ k o vs, H p = some o ∧ HK K k o vs
theorem SR.grow {K : Kx} {F H F' H' : Hp} {σ : L2.St} {δ : List D} {g : Nat → List Addr} (s : SR K F H σ δ g) (a : Grow F H F' H') : SR K F' H' σ δ g :=
  ⟨s.len, fun i d e n => by
    obtain ⟨v, e1, r⟩ := s.rel i d e n
    exact ⟨v, e1, a.r r⟩, s.dis, fun i p hp => by
    obtain ⟨e, k, o, vs, e2, hk⟩ := s.own i p hp
    exact ⟨(a.only p (by rw [e2]; simp)).trans e, k, o, vs, a.hh p o e2, hk⟩⟩

/-- what is known of the object of an exception -/
def ExD (fs : List D) (d : Option Addr) : Prop := fs = [] ∧ d = none
/-- what is left to be shown where an evaluation comes to r -/
def Rest (K : Kx) (W : WX) (σ : L2.St) (F H : Hp) (r : Res D) (view : Bool) (Q : VK) : Prop :=
  match r with
  | .ok d => ∀ v F' H' fp, Grow F H F' H' → R K F' H' v d fp → (view = false → ∀ p ∈ fp, H p = none) → Q v H'
  | .exc c fs => ∀ C d F' H', K.ca c = some C → Grow F H F' H' → ExD fs d → W (.ref C) d σ H'
  | .stuck => False
theorem Rest.grow {K : Kx} {W : WX} {σ : L2.St} {F H F1 H1 : Hp} {r : Res D} {view : Bool} {Q : VK} (h : Rest K W σ F H r view Q) (a : Grow F H F1 H1) : Rest K W σ F1 H1 r view Q := by
  cases r with
  | ok d => exact fun v F' H' fp b q n => h v F' H' fp (a.trans b) q fun e p hp => a.fresh (n e p hp)
  | exc c fs => exact fun C d F' H' e b q => h C d F' H' e (a.trans b) q
  | stuck => exact h
theorem Rest.view {K : Kx} {W : WX} {σ : L2.St} {F H : Hp} {r : Res D} {v w : Bool} {Q : VK} (h : Rest K W σ F H r v Q) (e : v = false → w = false) : Rest K W σ F H r w Q := by
  cases r with
  | ok d => exact fun v F' H' fp b q n => h v F' H' fp b q fun ev => n (e ev)
  | exc c fs => exact h
  | stuck => exact h
/-- the reading of an expression -/
def tE (K : Kx) (W : WX) (m : List D → Res D) (view : Bool) : TE := fun σ H Q => ∃ F δ g, Same F H ∧ SR K F H σ δ g ∧ Rest K W σ F H (m δ) view Q
theorem Rest.mono {K : Kx} {W : WX} {σ : L2.St} {F H : Hp} {r : Res D} {view : Bool} {Q Q' : VK} (h : Rest K W σ F H r view Q) (k : ∀ v H, Q v H → Q' v H) : Rest K W σ F H r view Q' := by
  cases r with
  | ok d => exact fun v F' H' fp b q n => k _ _ (h v F' H' fp b q n)
  | exc c fs => exact h
  | stuck => exact h
theorem tE.mono {K : Kx} {W : WX} {m : List D → Res D} {view : Bool} {σ : L2.St} {H : Hp} {Q Q' : VK} (h : tE K W m view σ H Q) (k : ∀ v H, Q v H → Q' v H) : tE K W m view σ H Q' := by
  obtain ⟨F, δ, g, s, r, q⟩ := h
  exact ⟨F, δ, g, s, r, q.mono k⟩
/-- an evaluation, then what hangs on it -/
theorem Rest.bind {K : Kx} {W : WX} {σ : L2.St} {F H : Hp} {r : Res D} {f : D → Res D} {va view : Bool} {Q : VK} (h : Rest K W σ F H (r.bind f) view Q) :
    Rest K W σ F H r va fun v H1 => ∃ F1 x fp, Grow F H F1 H1 ∧ R K F1 H1 v x fp ∧ (va = false → ∀ p ∈ fp, H p = none) ∧ Rest K W σ F1 H1 (f x) view Q := by
  cases r with
  | ok d => exact fun v F' H' fp b q n => ⟨F', d, fp, b, q, n, Rest.grow h b⟩
  | exc c fs => exact h
  | stuck => exact h
theorem Rest.ok {K : Kx} {W : WX} {σ : L2.St} {F H : Hp} {d : D} {view : Bool} {Q : VK} (h : Rest K W σ F H (.ok d) view Q) {v : V} {F' H' : Hp} {fp : List Addr} (b : Grow F H F' H') (q : R K F' H' v d fp) (n : view = false → ∀ p ∈ fp, H p = none) : Q v H' := h v F' H' fp b q n
/-- a scalar -/
theorem Rest.sc {K : Kx} {W : WX} {σ : L2.St} {F H : Hp} {d : D} {view : Bool} {Q : VK} (h : Rest K W σ F H (.ok d) view Q) (s : Same F H) {v : V} (q : ∀ F H, R K F H v d []) : Q v H := h v F H [] (Grow.refl s) (q F H) fun _ _ z => nomatch z
/-- a new list of frozen things -/
theorem Rest.newL {K : Kx} {W : WX} {σ : L2.St} {F H : Hp} {ds : List D} {view : Bool} {Q : VK} (h : Rest K W σ F H (.ok (.box true .lst ds)) view Q) (s : Same F H) {vs : List V} (q : Rs K F H vs ds []) : ∀ p, H p = none → Q (.ref p) (upd H p (.lst vs)) := fun p n =>
  h _ _ _ [p] (Grow.new s n) (.own (k := .lst) upd_same (.lst vs) (not_frozen s n) ((Grow.new s n).rs q) (fun z => nomatch z)) fun _ a ha => by
    rw [List.mem_singleton.mp ha]
    exact n
/-- a new tuple of frozen things -/
theorem Rest.newT {K : Kx} {W : WX} {σ : L2.St} {F H : Hp} {ds : List D} {view : Bool} {Q : VK} (h : Rest K W σ F H (.ok (.tup ds)) view Q) (s : Same F H) {vs : List V} {fp : List Addr} (q : Rs K F H vs ds fp) (n2 : view = false → ∀ p ∈ fp, H p = none) : ∀ p, H p = none → Q (.ref p) (upd H p (.tup vs)) := fun p n =>
  h _ _ _ fp (Grow.new s n) (.tup upd_same ((Grow.new s n).rs q)) n2
theorem PE.imp {X : Cx} {e : Expr} {t t' : TE} (h : PE X e t) (k : ∀ σ H Q, t' σ H Q → t σ H Q) : PE X e t' := ⟨fun pins s σ H Q I q => h.run pins s σ H Q I (k σ H Q q)⟩
theorem PT.imp {X : Cx} {e : Expr} {t t' : TT} (h : PT X e t) (k : ∀ σ H Q, t' σ H Q → t σ H Q) : PT X e t' := ⟨fun pins s σ H Q I q => h.run pins s σ H Q I (k σ H Q q)⟩
theorem PA.imp {X : Cx} {e : List Expr} {t t' : TA} (h : PA X e t) (k : ∀ σ H Q, t' σ H Q → t σ H Q) : PA X e t' := ⟨fun pos pins s σ H Q I q => h.run pos pins s σ H Q I (k σ H Q q)⟩
theorem PS.imp {X : Cx} {e : Stmt} {t t' : TS} (h : PS X e t) (k : ∀ D σ H, t' D σ H → t D σ H) : PS X e t' := ⟨fun pins s σ H D I q => h.run pins s σ H D I (k D σ H q)⟩
theorem PSs.imp {X : Cx} {e : List Stmt} {t t' : TS} (h : PSs X e t) (k : ∀ D σ H, t' D σ H → t D σ H) : PSs X e t' := ⟨fun pins s σ H D I q => h.run pins s σ H D I (k D σ H q)⟩
theorem PI.imp {X : Cx} {tg e : Expr} {t t' : TI} (h : PI X tg e t) (k : ∀ σ H Q, t' σ H Q → t σ H Q) : PI X tg e t' := ⟨fun pins s σ H Q I q => h.run pins s σ H Q I (k σ H Q q)⟩
theorem PE.orr {X : Cx} {e : Expr} {t t' : TE} (h : PE X e t) (h' : PE X e t') : PE X e (fun σ H Q => t σ H Q ∨ t' σ H Q) := ⟨fun pins s σ H Q I q => q.elim (h.run pins s σ H Q I) (h'.run pins s σ H Q I)⟩
theorem PI.orr {X : Cx} {tg e : Expr} {t t' : TI} (h : PI X tg e t) (h' : PI X tg e t') : PI X tg e (fun σ H Q => t σ H Q ∨ t' σ H Q) := ⟨fun pins s σ H Q I q => q.elim (h.run pins s σ H Q I) (h'.run pins s σ H Q I)⟩

/-! ### the promise of a def; what the context must bear -/
def spF (K : Kx) (F : List D → Res D) : Sp := fun vs H Q E => ∃ F0 ds, Same F0 H ∧ Rs K F0 H vs ds [] ∧
  match F ds with
  | .ok d => ∀ v F' H' fp, Grow F0 H F' H' → R K F' H' v d fp → (∀ p ∈ fp, H p = none) → Q v H'
  | .exc c fs => ∀ C d F' H', K.ca c = some C → Grow F0 H F' H' → ExD fs d → E (.ref C) d H'
  | .stuck => False
/-- how the heap moves on where the boxes fp may be changed; gp: what is owned then -/
structure TrI (F H : Hp) (fp : List Addr) (F' H' : Hp) (gp : List Addr) : Prop where
  ff : Same F F'
  fh : Same F' H'
  hh : ∀ p, p ∉ fp → ∀ o, H p = some o → H' p = some o
  only : ∀ p, p ∉ fp → H p ≠ none → F' p = F p
  new : ∀ p, p ∈ gp → p ∈ fp ∨ H p = none
/-- the promise of a def that changes what it is handed: what it gives, then what the arguments are behind it -/
def spI (K : Kx) (F : List D → Res D) : Sp := fun vs H Q E => ∃ F0 ds fp, Same F0 H ∧ Rs K F0 H vs ds fp ∧
  match F ds with
  | .ok (.tup (d :: bs)) => ∀ v F' H' fd gp, TrI F0 H fp F' H' (fd ++ gp) → Rs K F' H' vs bs gp → R K F' H' v d fd → (∀ p ∈ fd, p ∉ gp) → Q v H'
  | .exc c bs => ∀ C F' H' gp, K.ca c = some C → TrI F0 H fp F' H' gp → Rs K F' H' vs bs gp → E (.ref C) none H'
  | _ => False
def bltNames : List Str := ["len", "list", "abs", "max", "min", "int", "str", "sum", "isinstance", "bool", "tuple", "range", "zip", "enumerate", "reversed", "sorted", "all", "dict"]
structure FnAt (P : Program) (w : World) (K : Kx) (mg : Str → Option Value) (base : Heap) (k : Nat) (Fn : List D → Res D) (f : Str) (a : Addr) (fd : FuncData) (ps : List Str) : Prop where
  at_ : mg f = some (.ref a)
  ok : FnOk P w K.fr mg base (L2N.CX P w) k a fd ps (spF K Fn)
  kp : PySem.W.keepIn K.fr (.ref a) = true
  bd : Binds K.fr fd ps []
/-- a method -/
structure MtAt (P : Program) (w : World) (K : Kx) (mg : Str → Option Value) (base : Heap) (k : Nat) (sp : Sp) (c m : Str) (C a : Addr) (fd : FuncData) (ps : List Str) : Prop where
  ca : K.ca c = some C
  cl : Cls K.fr C
  mt : Meth K.fr C m a
  ok : FnOk P w K.fr mg base (L2N.CX P w) k a fd ps sp
  bd : Binds K.fr fd ps []
/-- a def that changes what it is handed -/
structure FnXt (P : Program) (w : World) (K : Kx) (mg : Str → Option Value) (base : Heap) (k : Nat) (Fn : List D → Res D) (f : Str) (a : Addr) (fd : FuncData) (ps : List Str) : Prop where
  at_ : mg f = some (.ref a)
  ok : FnOk P w K.fr mg base (L2N.CX P w) k a fd ps (spI K Fn)
  kp : PySem.W.keepIn K.fr (.ref a) = true
  bd : Binds K.fr fd ps []
/-- a class and its __init__ -/
structure MkAt (P : Program) (w : World) (K : Kx) (mg : Str → Option Value) (base : Heap) (k : Nat) (Fn : List D → Res D) (c : Str) (C a : Addr) (fd : FuncData) (ps : List Str) : Prop where
  ca : K.ca c = some C
  at_ : mg c = some (.ref C)
  cl : Cls K.fr C
  mr : Mk K.fr C a
  ok : FnOk P w K.fr mg base (L2N.CX P w) k a fd ps (spI K Fn)
  bd : Binds K.fr fd ps []
/-- K while the exception x1 of the class c is handled -/
def Kx.hot (K : Kx) (x1 : Addr) (c : Str) : Kx := { K with exc := some (x1, c) }
/-- the object of an own exception of the class C -/
def ZC (C : Addr) : Obj → Prop := fun o => Zc (.ref C) none o
structure FnHt (P : Program) (w : World) (K : Kx) (mg : Str → Option Value) (base : Heap) (k : Nat) (Fn : List D → Res D) (f : Str) (x1 C : Addr) (a : Addr) (fd : FuncData) (ps : List Str) : Prop where
  at_ : mg f = some (.ref a)
  ok : FnP P w K.fr mg base k a fd ps x1 (ZC C) (spF K Fn)
  kp : PySem.W.keepIn K.fr (.ref a) = true
  bd : Binds K.fr fd ps []
/-- an own class that is raised -/
structure RaC (K : Kx) (mg : Str → Option Value) (c : Str) (C : Addr) : Prop where
  at_ : mg c = some (.ref C)
  ex : PySem.W.excIn K.fr C He.veBase "ValueError.__new__" = true
  kp : PySem.W.keepIn K.fr (.ref C) = true
  sb : PySem.W.subIn K.fr (.ref C) (.type "BaseException") = some true
  ty : PySem.W.typeIn K.fr (.ref C) = some (.type "type")
/-- an own class whose instances are told apart -/
structure KiC (K : Kx) (mg : Str → Option Value) (c : Str) (C : Addr) : Prop where
  ec : ExcC K.fr C
  own : ∀ u, own14.contains u = true → ∃ U, mg u = some (.ref U) ∧ PySem.W.kitOne K.fr (.ref C) (.ref U) = some (subX c u)
  ve : PySem.W.kitOne K.fr (.ref C) (.type "ValueError") = some true
/-- the parts of the context that do not move: the module, the functions, the constants, the classes -/
structure Gok (P : Program) (w : World) (K : Kx) (mg : Str → Option Value) (base : Heap) (k : Nat) (fn : Str → Option (List D → Res D)) (gl : Str → Option D) : Prop where
  fns : K.exc = none → ∀ f Fn, bare f = true → fn f = some Fn → ∃ a fd ps, FnAt P w K mg base (k + 1) Fn f a fd ps
  mts : K.exc = none → ∀ (c m : Str) Fn, bare c = true → fn (keyM c m) = some Fn → ∃ C a fd ps, MtAt P w K mg base (k + 1) (spF K Fn) c m C a fd ps
  mtx : K.exc = none → ∀ (c m : Str) Fn, bare c = true → c ≠ Str.empty → m ≠ "__init__" → fn (keyX c m) = some Fn → ∃ C a fd ps, MtAt P w K mg base (k + 1) (spI K Fn) c m C a fd ps
  fnx : K.exc = none → ∀ m Fn, fn (keyX Str.empty m) = some Fn → ∃ a fd ps, FnXt P w K mg base (k + 1) Fn m a fd ps
  mks : K.exc = none → ∀ c Fn, bare c = true → c ≠ Str.empty → fn (keyX c "__init__") = some Fn → ∃ C a fd ps, MkAt P w K mg base k Fn c C a fd ps
  noat : ∀ c C f, K.ca c = some C → K.xs.fs.contains (c, f) = true → NoAttr K.fr C f
  fnh : ∀ Fn, fn "_law_kinds" = some Fn → ∀ x1 c C, K.ca c = some C → K.xs.rs.contains c = true → K.xs.cx = true → ∃ a fd ps, FnHt P w (K.hot x1 c) mg base (k + 1) Fn "_law_kinds" x1 C a fd ps
  gls : ∀ x d, gl x = some d → ∃ v u, mg x = some u ∧ RelV v u ∧ ∀ e F H, R { K with exc := e } F H v d []
  free : ∀ x ∈ bltNames, mg x = none
  has : ∀ c, K.xs.rs.contains c = true ∨ K.xs.es.contains c = true → ∃ C, K.ca c = some C
  cls : ∀ c C, K.ca c = some C → K.xs.rs.contains c = true → RaC K mg c C
  emg : ∀ u U, K.ca u = some U → K.xs.es.contains u = true → mg u = some (.ref U)
  exm : ∀ c C u U, K.ca c = some C → K.ca u = some U → K.xs.rs.contains c = true → K.xs.es.contains u = true → PySem.W.exmOne K.fr (.ref C) (.ref U) = some (subX c u)
  kit : K.xs.cx = true → mg "ValueError" = none ∧ ∀ c C, K.ca c = some C → K.xs.rs.contains c = true → KiC K mg c C
/-- the exception that is handled, seen from the context -/
structure HotK (X : Cx) (K : Kx) (x1 : Addr) (c : Str) : Prop where
  cx : K.xs.cx = true
  rs : K.xs.rs.contains c = true
  ob : ∃ oe C, K.ca c = some C ∧ HotQ X x1 oe ∧ ZC C oe
structure Cok (X : Cx) (W : WX) (N : List Str) (sc : Scope) (K : Kx) (k : Nat) (fn : Str → Option (List D → Res D)) (gl : Str → Option D) : Prop where
  hN : X.N = N
  nd : N.Nodup
  hsc : X.env.scope = sc
  calm : K.exc = none → X.calm = true
  hot : ∀ x1 c, K.exc = some (x1, c) → HotK X K x1 c
  tk : L2N.Takes X W
  nh : K.exc = none → X.A.handled = none
  room : L2H.RoomH (k + 1) X.A
  kfr : X.K = K.fr
  g : Gok X.prog X.w K X.mg X.base k fn gl
theorem Cok.rm {X : Cx} {W : WX} {N : List Str} {sc : Scope} {K : Kx} {k : Nat} {fn : Str → Option (List D → Res D)} {gl : Str → Option D} (c : Cok X W N sc K k fn gl) (hK : K.exc = none) : Room (k + 1) X.A := ⟨c.nh hK, c.room.dp, c.room.un⟩
theorem Kx.hot_self {K : Kx} {x1 : Addr} {c : Str} (h : K.exc = some (x1, c)) : K.hot x1 c = K := by
  obtain ⟨a, b, d, e⟩ := K
  cases h
  rfl
theorem Cok.hu {X : Cx} {W : WX} {N : List Str} {sc : Scope} {K : Kx} {k : Nat} {fn : Str → Option (List D → Res D)} {gl : Str → Option D} (c : Cok X W N sc K k fn gl) : X.A.units + 65 < cLine := by have := c.room.un; omega
section
variable {X : Cx} {W : WX} {N : List Str} {sc : Scope} {K : Kx} {k : Nat} {fn : Str → Option (List D → Res D)} {gl : Str → Option D}
theorem Cok.glo (c : Cok X W N sc K k fn gl) {x : Str} (h : glB sc x = true) : Gl X x ∧ (x == ("__debug__" : Str)) = false ∧ x ≠ ("__name__" : Str) := by
  unfold glB at h
  split at h
  · rename_i e
    obtain ⟨h1, h2⟩ := and_t h
    refine ⟨?_, by simpa using h1, by simpa using h2⟩
    show X.env.scope.names.lookup x = _
    rw [c.hsc]
    exact e
  · cases h
theorem Cok.vis (c : Cok X W N sc K k fn gl) {x : Str} (h : visB sc x = true) : Vis X.env.scope x := by
  unfold Vis
  rw [c.hsc]
  unfold visB at h
  split at h <;> first | exact .inl (by assumption) | exact .inr (.inl (by assumption)) | exact .inr (.inr (by assumption)) | cases h
theorem Cok.loc (c : Cok X W N sc K k fn gl) {x : Str} (h : locB sc x = true) : L2.Loc X.env.scope x := by
  unfold L2.Loc
  rw [c.hsc]
  unfold locB at h
  split at h <;> first | exact .inl (by assumption) | exact .inr (by assumption) | cases h
theorem Cok.ix (c : Cok X W N sc K k fn gl) {x : Str} {i : Nat} (h : N[i]? = some x) : X.N[i]? = some x := by
  rw [c.hN]
  exact h
theorem dbg_of {x : Str} (h : nodbg x = true) : (x == ("__debug__" : Str)) = false ∧ (x == ("__classdict__" : Str)) = false := by
  obtain ⟨h1, h2⟩ := and_t h
  exact ⟨by simpa using h1, by simpa using h2⟩
theorem Cok.mem (c : Cok X W N sc K k fn gl) {x : Str} (h : x ∈ bltNames) : X.mg x = none := c.g.free x h
end
end PX

/-! PX, part d: the rules, op by op. -/
namespace PX
open PySem PySem.Spec PyProof.Rows L2

section
variable {X : Cx} {W : WX} {K : Kx} {σ : L2.St} {F H : Hp} {view : Bool} {Q : VK}

/-! ### inverting R -/
theorem R.int_inv {v : V} {i : Int} {fp : List Addr} (h : R K F H v (.int i) fp) : v = .int i := by cases h; rfl
theorem R.str_inv {v : V} {i : Str} {fp : List Addr} (h : R K F H v (.str i) fp) : v = .str i := by cases h; rfl
theorem R.bl_inv {v : V} {i : Bool} {fp : List Addr} (h : R K F H v (.bl i) fp) : v = .bl i := by cases h; rfl
theorem R.non_inv {v : V} {fp : List Addr} (h : R K F H v .non fp) : v = .non := by cases h; rfl
theorem R.tup_inv {v : V} {xs : List D} {fp : List Addr} (h : R K F H v (.tup xs) fp) : ∃ a vs, v = .ref a ∧ SqT K.fr H a vs ∧ Rs K F H vs xs fp := by
  cases h with
  | tup h hs => exact ⟨_, _, rfl, SqT.of h, hs⟩
theorem R.tup_at {v : V} {xs : List D} {fp : List Addr} (h : R K F H v (.tup xs) fp) : ∃ a vs, v = .ref a ∧ H a = some (.tup vs) ∧ Rs K F H vs xs fp := by
  cases h with
  | tup h hs => exact ⟨_, _, rfl, h, hs⟩
theorem R.ctup_inv {v : V} {xs : List Str} {fp : List Addr} (h : R K F H v (.ctup xs) fp) : ∃ a, v = .ref a ∧ SqT K.fr H a (xs.map V.str) := by
  cases h with
  | ctup xs h _ => exact ⟨_, rfl, h H⟩
theorem strs_rs : ∀ xs : List Str, Rs K F H (xs.map V.str) (xs.map D.str) []
  | [] => .nil
  | x :: xs => .cons (f := []) (g := []) (.str x) (strs_rs xs) (fun _ z => nomatch z)
/-- a dict is there to be read -/
theorem R.dk_inv {v : V} {o : Bool} {ks : List Key} {xs : List D} {fp : List Addr} (s : Same F H) (h : R K F H v (.box o (.dk ks) xs) fp) : ∃ a kvs g, v = .ref a ∧ H a = some (.dK kvs) ∧ ks = kvs.map (·.1) ∧ Rs K F H (kvs.map (·.2)) xs g ∧ (∀ p ∈ g, p ∈ fp) := by
  cases h with
  | frz h hs =>
    obtain ⟨o, e, hk⟩ := h
    cases hk
    exact ⟨_, _, [], rfl, s _ _ e, rfl, hs, fun _ z => nomatch z⟩
  | own h hk n hs na =>
    cases hk
    exact ⟨_, _, _, rfl, h, rfl, hs, fun p hp => List.mem_cons_of_mem _ hp⟩
theorem R.dt_inv {v : V} {o : Bool} {ks : List (List Key)} {xs : List D} {fp : List Addr} (s : Same F H) (h : R K F H v (.box o (.dt ks) xs) fp) : ∃ a kvs g, v = .ref a ∧ H a = some (.dT kvs) ∧ ks = kvs.map (·.1) ∧ Rs K F H (kvs.map (·.2)) xs g ∧ (∀ p ∈ g, p ∈ fp) := by
  cases h with
  | frz h hs =>
    obtain ⟨o, e, hk⟩ := h
    cases hk
    exact ⟨_, _, [], rfl, s _ _ e, rfl, hs, fun _ z => nomatch z⟩
  | own h hk n hs na =>
    cases hk
    exact ⟨_, _, _, rfl, h, rfl, hs, fun p hp => List.mem_cons_of_mem _ hp⟩
theorem dval_nil {κ : Type} [DecidableEq κ] {k : κ} {ds : List D} : dval [] ds k = none := rfl
theorem dval_cons {κ : Type} [DecidableEq κ] {k j : κ} {ks : List κ} {d : D} {ds : List D} : dval (j :: ks) (d :: ds) k = if j = k then some d else dval ks ds k := by
  unfold dval
  rw [List.zip_cons_cons, List.find?_cons]
  by_cases e : j = k
  · simp [e]
  · simp [e]
/-- what the dict holds, both ways -/
theorem dval_ok {κ : Type} [DecidableEq κ] {k : κ} : ∀ {kvs : List (κ × V)} {ds : List D} {fp : List Addr}, Rs K F H (kvs.map (·.2)) ds fp → (valV kvs k = none ∧ dval (kvs.map (·.1)) ds k = none) ∨ ∃ v d g, valV kvs k = some v ∧ dval (kvs.map (·.1)) ds k = some d ∧ R K F H v d g ∧ ∀ p ∈ g, p ∈ fp
  | [], _, _, _ => .inl ⟨rfl, rfl⟩
  | kv :: kvs, [], _, h => nomatch h
  | kv :: kvs, d :: ds, _, h => by
    cases h with
    | cons h hs n =>
      rw [List.map_cons, dval_cons]
      by_cases e : kv.1 = k
      · rw [if_pos e, valV_pos e]
        exact .inr ⟨_, _, _, rfl, rfl, h, fun p hp => List.mem_append_left _ hp⟩
      · rw [if_neg e, valV_neg e]
        rcases dval_ok hs (k := k) with h | ⟨v, d, g, h1, h2, h3, h4⟩
        · exact .inl h
        · exact .inr ⟨v, d, g, h1, h2, h3, fun p hp => List.mem_append_right _ (h4 p hp)⟩
theorem key_v {w : V} {y : D} {f : List Addr} {k : Key} (r : R K F H w y f) (e : keyD y = some k) : w = kV k := by
  cases y with
  | int i => cases e; exact r.int_inv
  | str i => cases e; exact r.str_inv
  | _ => cases e
theorem keys_v : ∀ {vs : List V} {xs : List D} {f : List Addr} {k : List Key}, Rs K F H vs xs f → keysD xs = some k → vs = k.map kV
  | _, _, _, _, .nil, e => by cases e; rfl
  | _, _, _, k, .cons h hs n, e => by
    unfold keysD at e
    split at e
    · rename_i k1 k2 q1 q2
      cases e
      rw [key_v h q1, keys_v hs q2]
      rfl
    · cases e
theorem kd_v {F H : Hp} : ∀ k : Key, R K F H (kV k) (kD k) []
  | .inl i => .int i
  | .inr x => .str x
theorem kds_v {F H : Hp} : ∀ k : List Key, Rs K F H (k.map kV) (k.map kD) []
  | [] => .nil
  | k :: ks => .cons (f := []) (g := []) (kd_v k) (kds_v ks) (fun _ z => nomatch z)
theorem dget_ok {v w : V} {x y : D} {f f2 : List Addr} {r : Option D} (s : Same F H) (r1 : R K F H v x f) (r2 : R K F H w y f2) (e : dgetD x y = some r) :
    ∃ a o, v = .ref a ∧ IsD H a ∧ DGet H a w o ∧ ((o = none ∧ r = none) ∨ ∃ u d g, o = some u ∧ r = some d ∧ R K F H u d g ∧ ∀ p ∈ g, p ∈ f) := by
  unfold dgetD at e
  split at e
  · rename_i o ks ds
    obtain ⟨k, ek, rfl⟩ := Option.map_eq_some_iff.mp e
    obtain ⟨a, kvs, g, rfl, ha, rfl, hs, sub⟩ := r1.dk_inv s
    have hw := key_v r2 ek
    subst hw
    refine ⟨a, valV kvs k, rfl, .inl ⟨kvs, .inl ha⟩, DGet.k ha, ?_⟩
    rcases dval_ok hs (k := k) with h | ⟨u, d, g, h1, h2, h3, h4⟩
    · exact .inl h
    · exact .inr ⟨u, d, g, h1, h2, h3, fun p hp => sub p (h4 p hp)⟩
  · rename_i o ks ds xs
    obtain ⟨k, ek, rfl⟩ := Option.map_eq_some_iff.mp e
    obtain ⟨a, kvs, g, rfl, ha, rfl, hs, sub⟩ := r1.dt_inv s
    obtain ⟨b, vs, rfl, hb, hv⟩ := r2.tup_at
    rw [keys_v hv ek] at hb
    refine ⟨a, valV kvs k, rfl, .inr ⟨kvs, .inl ha⟩, DGet.t ha hb, ?_⟩
    rcases dval_ok hs (k := k) with h | ⟨u, d, g, h1, h2, h3, h4⟩
    · exact .inl h
    · exact .inr ⟨u, d, g, h1, h2, h3, fun p hp => sub p (h4 p hp)⟩
  · cases e
/-- d[k] -/
def rIxDc : R2 := fun x y H Q => ∃ a v, x = .ref a ∧ DGet H a y (some v) ∧ Q v H
theorem ix_dict (hu : X.A.units + 1 < cLine) : IxR X rIxDc := by
  intro value slice pins s σ H x y v u Q I rx ry h hs
  obtain ⟨a, z, rfl, g, q⟩ := h
  obtain rfl : v = Value.ref a := rx
  exact tail_any (dict_typeIs I g) PySem.F.slot_dict_getitem.lookup (d_getItem hu I g ry fun w' s3 I3 rw' => ⟨z, H, I3, rw', q⟩) hs
def rIx2 (K : PySem.W.Frag) : R2 := fun x y H Q => rIx K x y H Q ∨ rIxDc x y H Q
theorem ix_all (hu : X.A.units + 1 < cLine) : IxR X (rIx2 X.K) := ix_seq.or (ix_dict hu)
/-- k in d -/
def rInDc : R2 := fun x y H Q => ∃ a o, y = .ref a ∧ DGet H a x o ∧ Q (.bl o.isSome) H
def rNinDc : R2 := fun x y H Q => ∃ a o, y = .ref a ∧ DGet H a x o ∧ Q (.bl (!o.isSome)) H
theorem op_inDc (hu : X.A.units + 1 < cLine) : OpR X (compareOp .In) rInDc := by
  intro pins s σ H x y v u Q I rx ry h
  obtain ⟨a, o, rfl, g, q⟩ := h
  obtain rfl : u = Value.ref a := ry
  exact d_in hu I g rx fun s' I' => ⟨.bl o.isSome, H, I', rfl, q⟩
theorem op_ninDc (hu : X.A.units + 1 < cLine) : OpR X (compareOp .NotIn) rNinDc := by
  intro pins s σ H x y v u Q I rx ry h
  obtain ⟨a, o, rfl, g, q⟩ := h
  obtain rfl : u = Value.ref a := ry
  exact d_notIn hu I g rx fun s' I' => ⟨.bl (!o.isSome), H, I', rfl, q⟩
/-- a list is there to be read -/
theorem R.lst_inv {v : V} {o : Bool} {xs : List D} {fp : List Addr} (s : Same F H) (h : R K F H v (.box o .lst xs) fp) : ∃ a vs g, v = .ref a ∧ H a = some (.lst vs) ∧ Rs K F H vs xs g ∧ (∀ p ∈ g, p ∈ fp) := by
  cases h with
  | frz h hs =>
    obtain ⟨o, e, hk⟩ := h
    cases hk
    exact ⟨_, _, [], rfl, s _ _ e, hs, fun _ z => nomatch z⟩
  | own h hk n hs na =>
    cases hk
    exact ⟨_, _, _, rfl, h, hs, fun p hp => List.mem_cons_of_mem _ hp⟩
theorem R.scr_inv {v : V} {ns : List Int} {fp : List Addr} (s : Same F H) (h : R K F H v (.scr ns) fp) : ∃ a, v = .ref a ∧ SqL K.fr H a (ns.map V.int) := by
  cases h with
  | scr ns h => exact ⟨_, rfl, s.seq h⟩
theorem Rs.nos0 {vs : List V} {xs : List D} {fp : List Addr} (h : Rs K F H vs xs fp) (e : D.nos xs = true) : Rs K F H vs xs [] := by
  have := h.noOwn e
  subst this
  exact h
theorem R.no0 {v : V} {d : D} {fp : List Addr} (h : R K F H v d fp) (e : d.no = true) : R K F H v d [] := by
  have := h.noOwn e
  subst this
  exact h

/-! ### indexes -/
theorem atI_map {α β : Type} (f : α → β) (xs : List α) (i : Int) : atI (xs.map f) i = (atI xs i).map f := by
  unfold atI
  rw [List.length_map]
  cases ixN xs.length i with
  | none => rfl
  | some j =>
    show (xs.map f)[j]? = (xs[j]?).map f
    rw [List.getElem?_map]
theorem Rs.atI {vs : List V} {xs : List D} {fp : List Addr} (h : Rs K F H vs xs fp) {i : Int} {d : D} (e : L2.atI xs i = some d) : ∃ v g, L2.atI vs i = some v ∧ R K F H v d g ∧ ∀ p ∈ g, p ∈ fp := by
  unfold L2.atI at e ⊢
  rw [h.length]
  cases q : ixN xs.length i with
  | none => rw [q] at e; cases e
  | some j =>
    rw [q] at e
    obtain ⟨v, g, e1, r, k⟩ := h.get (i := j) (d := d) e
    exact ⟨v, g, e1, r, k⟩
theorem rest_ix {v w : V} {x y : D} {f f2 : List Addr} (s : Same F H) (r1 : R K F H v x f) (r2 : R K F H w y f2) (q : Rest K W σ F H (ixD x y) true Q) : rIx2 K.fr v w H Q := by
  unfold ixD at q
  split at q
  · rename_i xs i
    obtain ⟨a, vs, rfl, ht, hs⟩ := r1.tup_inv
    have e2 := r2.int_inv
    subst e2
    cases e : L2.atI xs i with
    | none => rw [e] at q; exact q.elim
    | some d =>
      rw [e] at q
      obtain ⟨u, g, e1, r, k⟩ := hs.atI e
      exact .inl (.inr (.inl ⟨a, vs, i, u, rfl, rfl, ht, e1, q.ok (Grow.refl s) r (fun z => nomatch z)⟩))
  · rename_i o xs i
    obtain ⟨a, vs, g0, rfl, ht, hs, _⟩ := r1.lst_inv s
    have e2 := r2.int_inv
    subst e2
    cases e : L2.atI xs i with
    | none => rw [e] at q; exact q.elim
    | some d =>
      rw [e] at q
      obtain ⟨u, g, e1, r, k⟩ := hs.atI e
      exact .inl (.inl ⟨a, vs, i, u, rfl, rfl, SqL.of ht, e1, q.ok (Grow.refl s) r (fun z => nomatch z)⟩)
  · rename_i ns i
    obtain ⟨a, rfl, ht⟩ := r1.scr_inv s
    have e2 := r2.int_inv
    subst e2
    cases e : L2.atI ns i with
    | none => rw [e] at q; exact q.elim
    | some d =>
      rw [e] at q
      exact .inl (.inl ⟨a, ns.map V.int, i, .int d, rfl, rfl, ht, by rw [atI_map, e]; rfl, q.sc s fun _ _ => .int d⟩)
  · rename_i z i
    have e1 := r1.str_inv
    have e2 := r2.int_inv
    subst e1 e2
    split at q
    · rename_i hz
      cases e : L2.atI z.cps.toList i with
      | none => rw [e] at q; exact q.elim
      | some c =>
        rw [e] at q
        exact .inl (.inr (.inr ⟨z, i, c, rfl, rfl, hz, e, q.sc s fun _ _ => .str _⟩))
    · exact q.elim
  · rename_i xs i
    obtain ⟨a, rfl, ht⟩ := r1.ctup_inv
    have e2 := r2.int_inv
    subst e2
    cases e : L2.atI xs i with
    | none => rw [e] at q; exact q.elim
    | some d =>
      rw [e] at q
      exact .inl (.inr (.inl ⟨a, _, i, .str d, rfl, rfl, ht, by rw [atI_map, e]; rfl, q.sc s fun _ _ => .str d⟩))
  · cases e : dgetD (.box _ (.dk _) _) y with
    | none => rw [e] at q; exact q.elim
    | some r =>
      rw [e] at q
      obtain ⟨a, o, rfl, _, g, h⟩ := dget_ok s r1 r2 e
      rcases h with ⟨rfl, rfl⟩ | ⟨u, d, gg, rfl, rfl, h3, h4⟩
      · exact q.elim
      · exact .inr ⟨a, u, rfl, g, q.ok (Grow.refl s) h3 (fun z => nomatch z)⟩
  · cases e : dgetD (.box _ (.dt _) _) y with
    | none => rw [e] at q; exact q.elim
    | some r =>
      rw [e] at q
      obtain ⟨a, o, rfl, _, g, h⟩ := dget_ok s r1 r2 e
      rcases h with ⟨rfl, rfl⟩ | ⟨u, d, gg, rfl, rfl, h3, h4⟩
      · exact q.elim
      · exact .inr ⟨a, u, rfl, g, q.ok (Grow.refl s) h3 (fun z => nomatch z)⟩
  · exact q.elim

/-! ### + - * // % ** -/
theorem rep_made (x : Str) (n : Int) (t : Tok) (s : Shared) (Q : Value → Shared → Prop) (h0 : 0 ≤ n) (hn : n < 100000) (hl : x.length * n.toNat ≤ sizeLine) (hx : x.length ≤ 100000) (h : ∀ u k, Q (.str (repS x n) u) { s with toks := k }) :
    ((if n < 1 then Made.str Str.empty else if (n == 1 || x.length == 0) = true then Made.val (.str x t) else Made.str ⟨(List.replicate n.toNat x.cps).foldl (· ++ ·) #[]⟩).post Q s) := by
  unfold repS at h
  by_cases h1 : n < 1
  · rw [if_pos h1]
    rw [if_pos h1] at h
    exact ⟨by decide, h _ _⟩
  · rw [if_neg h1]
    rw [if_neg h1] at h
    by_cases h2 : n = 1
    · rw [if_pos (by rw [h2]; rfl)]
      rw [if_pos h2] at h
      exact h t s.toks
    · rw [if_neg h2] at h
      by_cases h3 : x.length = 0
      · rw [if_pos (by rw [h3]; simp)]
        have e : (⟨(List.replicate n.toNat x.cps).foldl (· ++ ·) #[]⟩ : Str) = x := by
          have hx0 : x.cps = #[] := by
            have : x.cps.size = 0 := h3
            exact Array.eq_empty_of_size_eq_zero this
          have : ∀ m : Nat, (List.replicate m (#[] : Array Nat)).foldl (· ++ ·) #[] = #[] := fun m => by
            induction m with
            | zero => rfl
            | succ m ih => rw [List.replicate_succ, List.foldl_cons]; exact ih
          cases x with
          | mk cps =>
            simp only at hx0
            rw [hx0, this]
        rw [e] at h
        exact h t s.toks
      · rw [if_neg (by simp [h2, h3])]
        refine ⟨?_, h _ _⟩
        have e : ∀ (m : Nat) (acc : Array Nat), ((List.replicate m x.cps).foldl (· ++ ·) acc).size = acc.size + m * x.cps.size := fun m => by
          induction m with
          | zero => intro acc; simp
          | succ m ih =>
            intro acc
            rw [List.replicate_succ, List.foldl_cons, ih, Array.size_append, Nat.succ_mul]
            omega
        show ((List.replicate n.toNat x.cps).foldl (· ++ ·) #[]).size ≤ sizeLine
        rw [e]
        have : x.cps.size = x.length := rfl
        rw [this, Nat.mul_comm]
        simpa using hl
theorem op_mulS : OpR X (binaryOp .Mult) (fun x y H Q => ∃ (z : Str) (n : Int), x = .str z ∧ y = .int n ∧ 0 ≤ n ∧ n < 100000 ∧ z.length * n.toNat ≤ sizeLine ∧ z.length ≤ 100000 ∧ Q (.str (repS z n)) H) := by
  intro pins s σ H x y v u Q I rx ry h
  obtain ⟨z, n, rfl, rfl, h0, h1, h2, h3, q⟩ := h
  obtain ⟨t, rfl⟩ := rx
  obtain ⟨t', rfl⟩ := ry
  refine PySem.P.mul_str (by rw [decide_eq_false (by omega), decide_eq_false (by omega)]; rfl) (fun a _ c => ?_) (fun a _ => ?_) (rep_made z n t s _ h0 h1 h2 h3 fun u k => ⟨.str _, H, I.tok k, ⟨u, rfl⟩, q⟩)
  · have hs : sizeLine = 16777216 := sizeLine_eq
    have h5 : (z.length : Int) * n ≤ 2 ^ 63 - 1 := by
      have e : (n.toNat : Int) = n := Int.toNat_of_nonneg h0
      rw [← e, ← Int.natCast_mul]
      have : ((z.length * n.toNat : Nat) : Int) ≤ (sizeLine : Nat) := by exact_mod_cast h2
      rw [hs] at this
      omega
    have h6 : (z.length : Int) ≤ (2 ^ 63 - 1) / n := Int.le_ediv_of_mul_le (by omega) h5
    omega
  · show decide (_ > _) = false
    exact decide_eq_false (by
      have hs : sizeLine = 16777216 := sizeLine_eq
      omega)

def rBin : Bop → R2
  | .add => fun x y H Q => rI0 (fun i j => .int (i + j)) x y H Q ∨ (∃ i j, x = .str i ∧ y = .str j ∧ i.length + j.length ≤ sizeLine ∧ Q (.str (i ++ j)) H) ∨ rCat x y H Q
  | .sub => rI0 fun i j => .int (i - j)
  | .mul => fun x y H Q => rI CMul (fun i j => .int (i * j)) x y H Q ∨ (∃ (z : Str) (n : Int), x = .str z ∧ y = .int n ∧ 0 ≤ n ∧ n < 100000 ∧ z.length * n.toNat ≤ sizeLine ∧ z.length ≤ 100000 ∧ Q (.str (repS z n)) H) ∨ rRep x y H Q
  | .fdiv => rI CDiv fun i j => .int (i / j)
  | .mod => rI (fun _ j => 0 < j) fun i j => .int (i % j)
  | .pow => rI CPow fun i j => .int (i ^ j.toNat)
theorem op_bin {o : Bop} {op : Operator} (h : bopE o op = true) : OpR X (binaryOp op) (rBin o) := by
  cases o <;> cases op <;> first | cases h | skip
  · exact op_add.or (op_add_str.or op_cat)
  · exact op_sub
  · exact op_mul.or (op_mulS.or op_rep)
  · exact op_fdiv
  · exact op_mod
  · exact op_pow
theorem mul_small {i j : Int} (h : i.natAbs < 2 ^ 64 ∨ j.natAbs < 2 ^ 64) : CMul i j := by
  unfold CMul
  omega
theorem Rs.rep {vs : List V} {ds : List D} (h : Rs K F H vs ds []) : ∀ n : Nat, Rs K F H (repL vs n) (repL ds n) []
  | 0 => .nil
  | n + 1 => by
    have e : ∀ {α : Type} (xs : List α), repL xs (n + 1) = xs ++ repL xs n := fun xs => by
      unfold repL
      rw [List.replicate_succ, List.flatten_cons]
    rw [e, e]
    exact Rs.app0 h (Rs.rep h n)
theorem rest_bin {o : Bop} {v w : V} {x y : D} {f f2 : List Addr} (s : Same F H) (r1 : R K F H v x f) (r2 : R K F H w y f2) (q : Rest K W σ F H (binD o x y) view Q) : rBin o v w H Q := by
  unfold binD at q
  split at q
  · have e1 := r1.int_inv
    have e2 := r2.int_inv
    subst e1 e2
    exact .inl ⟨_, _, rfl, rfl, q.sc s fun _ _ => .int _⟩
  · have e1 := r1.str_inv
    have e2 := r2.str_inv
    subst e1 e2
    split at q
    · rename_i hz
      exact .inr (.inl ⟨_, _, rfl, rfl, hz, q.sc s fun _ _ => .str _⟩)
    · exact q.elim
  · split at q
    · rename_i hz
      obtain ⟨h1, h2, h3⟩ := hz
      obtain ⟨a, vs, g1, rfl, ha, hs, _⟩ := r1.lst_inv s
      obtain ⟨b, ws, g2, rfl, hb, hs2, _⟩ := r2.lst_inv s
      exact .inr (.inr ⟨a, b, vs, ws, rfl, rfl, ha, hb, by rw [hs.length, hs2.length]; exact h1, q.newL s ((hs.nos0 h2).app0 (hs2.nos0 h3))⟩)
    · exact q.elim
  · have e1 := r1.int_inv
    have e2 := r2.int_inv
    subst e1 e2
    exact ⟨_, _, rfl, rfl, q.sc s fun _ _ => .int _⟩
  · have e1 := r1.int_inv
    have e2 := r2.int_inv
    subst e1 e2
    split at q
    · rename_i hz
      exact .inl ⟨_, _, rfl, rfl, mul_small hz, q.sc s fun _ _ => .int _⟩
    · exact q.elim
  · have e1 := r1.str_inv
    have e2 := r2.int_inv
    subst e1 e2
    split at q
    · rename_i hz
      exact .inr (.inl ⟨_, _, rfl, rfl, hz.1, hz.2.1, hz.2.2.1, hz.2.2.2, q.sc s fun _ _ => .str _⟩)
    · exact q.elim
  · have e2 := r2.int_inv
    subst e2
    split at q
    · rename_i hz
      obtain ⟨h1, h2, h3, h4⟩ := hz
      obtain ⟨a, vs, g1, rfl, ha, hs, _⟩ := r1.lst_inv s
      exact .inr (.inr ⟨a, _, vs, rfl, rfl, ha, by omega, by omega, by rw [hs.length]; exact h3, q.newL s ((hs.nos0 h4).rep _)⟩)
    · exact q.elim
  · have e1 := r1.int_inv
    have e2 := r2.int_inv
    subst e1 e2
    split at q
    · rename_i hz
      exact ⟨_, _, rfl, rfl, hz, q.sc s fun _ _ => .int _⟩
    · exact q.elim
  · have e1 := r1.int_inv
    have e2 := r2.int_inv
    subst e1 e2
    split at q
    · rename_i hz
      exact ⟨_, _, rfl, rfl, hz, q.sc s fun _ _ => .int _⟩
    · exact q.elim
  · have e1 := r1.int_inv
    have e2 := r2.int_inv
    subst e1 e2
    split at q
    · rename_i hz
      exact ⟨_, _, rfl, rfl, hz, q.sc s fun _ _ => .int _⟩
    · exact q.elim
  · exact q.elim

/-! ### comparisons -/
theorem Fz.list {a : Addr} {vs : List V} (s : Same F H) (h : Fz K F a .lst vs) : H a = some (.lst vs) := by
  obtain ⟨o, e, hk⟩ := h
  cases hk
  exact s _ _ e
theorem strs_dp {H : Hp} : ∀ xs : List Str, DpAll K.fr H (xs.map V.str) (xs.map PyData.str)
  | [] => .nil
  | x :: xs => .cons (.str x) (strs_dp xs)
mutual
theorem R.dp (s : Same F H) : ∀ {d : D} {v : V} {fp : List Addr} {p : PyData}, R K F H v d fp → d.py = some p → Dp K.fr H v p
  | .non, _, _, _, h, e => by
    unfold D.py at e
    cases e
    rw [h.non_inv]
    exact .non
  | .bl b, _, _, _, h, e => by
    unfold D.py at e
    cases e
    rw [h.bl_inv]
    exact .bl b
  | .int i, _, _, _, h, e => by
    unfold D.py at e
    cases e
    rw [h.int_inv]
    exact .int i
  | .str x, _, _, _, h, e => by
    unfold D.py at e
    cases e
    rw [h.str_inv]
    exact .str x
  | .tup xs, _, _, _, h, e => by
    unfold D.py at e
    cases q : D.pys xs with
    | none => rw [q] at e; cases e
    | some ps =>
      rw [q] at e
      cases e
      obtain ⟨a, vs, rfl, ht, hs⟩ := h.tup_inv
      exact .tup ht (Rs.dp s hs q)
  | .ctup xs, _, _, _, h, e => by
    unfold D.py at e
    cases e
    obtain ⟨a, rfl, ht⟩ := h.ctup_inv
    exact .tup ht (strs_dp xs)
  | .exv _ _, _, _, _, _, e => by unfold D.py at e; cases e
  | .box o .lst xs, _, _, _, h, e => by
    unfold D.py at e
    cases q : D.pys xs with
    | none => rw [q] at e; cases e
    | some ps =>
      rw [q] at e
      cases e
      obtain ⟨a, vs, g, rfl, ht, hs, _⟩ := h.lst_inv s
      exact .lst (SqL.of ht) (Rs.dp s hs q)
  | .box o (.dk _) xs, _, _, _, _, e => by unfold D.py at e; cases e
  | .box o (.dt _) xs, _, _, _, _, e => by unfold D.py at e; cases e
  | .box o (.ob _ _) xs, _, _, _, _, e => by unfold D.py at e; cases e
  | .dead, _, _, _, _, e => by unfold D.py at e; cases e
  | .scr _, _, _, _, _, e => by unfold D.py at e; cases e
theorem Rs.dp (s : Same F H) : ∀ {ds : List D} {vs : List V} {fp : List Addr} {ps : List PyData}, Rs K F H vs ds fp → D.pys ds = some ps → DpAll K.fr H vs ps
  | [], _, _, _, h, e => by
    unfold D.pys at e
    cases e
    cases h
    exact .nil
  | d :: ds, _, _, _, h, e => by
    unfold D.pys at e
    cases h with
    | cons h hs n =>
      split at e
      · rename_i q1 q2
        cases e
        exact .cons (R.dp s h q1) (Rs.dp s hs q2)
      · cases e
end
theorem eq_scal {v w : V} {x y : D} {f f2 : List Addr} {b : Bool} (s : Same F H) (r1 : R K F H v x f) (r2 : R K F H w y f2) (e : eqD x y = some b) (q : Q (.bl b) H) : rEq v w H Q ∨ rEqD K.fr v w H Q := by
  unfold eqD at e
  split at e
  · cases e
    rw [r1.int_inv, r2.int_inv]
    refine .inl ⟨rfl, ?_⟩
    rename_i i j
    have : decide (V.int i = V.int j) = decide (i = j) := by simp
    rw [this]
    exact q
  · cases e
    rw [r1.str_inv, r2.str_inv]
    refine .inl ⟨rfl, ?_⟩
    rename_i i j
    have : decide (V.str i = V.str j) = decide (i = j) := by simp
    rw [this]
    exact q
  · cases e
    rw [r1.bl_inv, r2.bl_inv]
    refine .inl ⟨rfl, ?_⟩
    rename_i i j
    have : decide (V.bl i = V.bl j) = decide (i = j) := by simp
    rw [this]
    exact q
  all_goals first
    | (cases e
       first
         | rw [r1.non_inv, r2.non_inv] | rw [r1.non_inv, r2.int_inv] | rw [r1.int_inv, r2.non_inv] | rw [r1.non_inv, r2.str_inv] | rw [r1.str_inv, r2.non_inv] | rw [r1.non_inv, r2.bl_inv]
         | rw [r1.bl_inv, r2.non_inv] | rw [r1.int_inv, r2.str_inv] | rw [r1.str_inv, r2.int_inv] | rw [r1.bl_inv, r2.str_inv] | rw [r1.str_inv, r2.bl_inv]
       exact .inl ⟨rfl, by simpa using q⟩)
    | skip
  split at e
  · rename_i q1 q2
    split at e
    · rename_i hs
      cases e
      exact .inr ⟨_, _, R.dp s r1 q1, R.dp s r2 q2, hs.1, hs.2, q⟩
    · cases e
  · cases e
theorem ne_scal {v w : V} {x y : D} {f f2 : List Addr} {b : Bool} (s : Same F H) (r1 : R K F H v x f) (r2 : R K F H w y f2) (e : eqD x y = some b) (q : Q (.bl (!b)) H) : rNe v w H Q ∨ rNeD K.fr v w H Q := by
  rcases eq_scal (Q := fun u H => ∃ c, u = .bl c ∧ Q (.bl (!c)) H) s r1 r2 e ⟨b, rfl, q⟩ with ⟨h, c, e2, q2⟩ | ⟨d, e2, h1, h2, h3, h4, c, e5, q5⟩
  · exact .inl ⟨h, by
      have : decide (v = w) = c := by injection e2
      rw [this]
      exact q2⟩
  · exact .inr ⟨d, e2, h1, h2, h3, h4, by
      have : PyData.eqv d e2 = c := by injection e5
      rw [this]
      exact q5⟩
theorem like_eq {v w : V} {x y : D} {f f2 : List Addr} {b : Bool} (r1 : R K F H v x f) (r2 : R K F H w y f2) (e : likeD x y = some b) : flatV v = true ∧ eqV v w = b := by
  unfold likeD at e
  split at e
  · cases e
    rw [r1.int_inv, r2.int_inv]
    rename_i i j
    exact ⟨rfl, by show (i == j) = _; rw [Bool.beq_eq_decide_eq]⟩
  · cases e
    rw [r1.str_inv, r2.str_inv]
    rename_i i j
    exact ⟨rfl, by show (i == j) = _; rw [Bool.beq_eq_decide_eq]⟩
  · cases e
    rw [r1.int_inv, r2.str_inv]
    exact ⟨rfl, rfl⟩
  · cases e
    rw [r1.str_inv, r2.int_inv]
    exact ⟨rfl, rfl⟩
  · cases e
theorem in_eq {w : V} {y : D} {f2 : List Addr} (r2 : R K F H w y f2) : ∀ {vs : List V} {xs : List D} {f : List Addr} {b : Bool}, Rs K F H vs xs f → inLs y xs = some b → vs.all flatV = true ∧ inV w vs = b
  | _, _, _, _, .nil, e => by
    unfold inLs at e
    cases e
    exact ⟨rfl, rfl⟩
  | _, _, _, _, .cons h hs n, e => by
    unfold inLs at e
    split at e
    · rename_i a b q1 q2
      cases e
      obtain ⟨h1, h2⟩ := like_eq h r2 q1
      obtain ⟨h3, h4⟩ := in_eq r2 hs q2
      refine ⟨by rw [List.all_cons, h1, h3]; rfl, ?_⟩
      show (_ :: _).any _ = _
      rw [List.any_cons, h2]
      show (_ || inV w _) = _
      rw [h4]
    · cases e
def rInA (K : PySem.W.Frag) : R2 := fun x y H Q => (∃ (c : Nat) (z : Str), x = .str ⟨#[c]⟩ ∧ y = .str z ∧ Q (.bl (decide (c ∈ z.cps.toList))) H) ∨ rIn K false x y H Q ∨ rInDc x y H Q ∨ rInD K x y H Q
def rNinA (K : PySem.W.Frag) : R2 := fun x y H Q => (∃ (c : Nat) (z : Str), x = .str ⟨#[c]⟩ ∧ y = .str z ∧ Q (.bl (!decide (c ∈ z.cps.toList))) H) ∨ rIn K true x y H Q ∨ rNinDc x y H Q ∨ rNotInD K x y H Q
theorem in_strs (x : Str) : ∀ xs : List Str, inV (.str x) (xs.map V.str) = decide (x ∈ xs)
  | [] => by simp [inV]
  | y :: ys => by
    have ih := in_strs x ys
    show (List.map V.str (y :: ys)).any _ = _
    rw [List.map_cons, List.any_cons]
    show (_ || inV (.str x) (ys.map V.str)) = _
    rw [ih]
    have e : eqV (V.str y) (V.str x) = decide (y = x) := by show (y == x) = _; rw [Bool.beq_eq_decide_eq]
    rw [e]
    by_cases h : y = x
    · simp [h]
    · have h' : ¬ x = y := fun z => h z.symm
      simp [h, h']
theorem in_any {v w : V} {x y : D} {f f2 : List Addr} {b : Bool} (s : Same F H) (r1 : R K F H v x f) (r2 : R K F H w y f2) (e : inD x y = some b) :
    (∃ (c : Nat) (z : Str), v = .str ⟨#[c]⟩ ∧ w = .str z ∧ decide (c ∈ z.cps.toList) = b) ∨ (∃ p xs, w = .ref p ∧ (SqL K.fr H p xs ∨ SqT K.fr H p xs) ∧ flatV v = true ∧ xs.all flatV = true ∧ inV v xs = b) ∨ (∃ a o, w = .ref a ∧ DGet H a v o ∧ o.isSome = b) ∨
      ∃ d ds, Dp K.fr H v d ∧ Dp K.fr H w (.list ds) ∧ SeqAt.shaped d = true ∧ SeqAt.shaped (.list ds) = true ∧ (ds.any fun z => PyData.eqv z d) = b := by
  have dic : (dgetD y x).map (·.isSome) = some b → ∃ a o, w = .ref a ∧ DGet H a v o ∧ o.isSome = b := fun e => by
    obtain ⟨r, er, rfl⟩ := Option.map_eq_some_iff.mp e
    obtain ⟨a, o, rfl, _, g, h⟩ := dget_ok s r2 r1 er
    refine ⟨a, o, rfl, g, ?_⟩
    rcases h with ⟨rfl, rfl⟩ | ⟨u, d, gg, rfl, rfl, _⟩ <;> rfl
  unfold inD at e
  split at e
  · cases e
    exact .inl ⟨_, _, r1.str_inv, r2.str_inv, rfl⟩
  · obtain ⟨a, vs, rfl, ht, hs⟩ := r2.tup_inv
    obtain ⟨h1, h2⟩ := in_eq r1 hs e
    exact .inr (.inl ⟨a, vs, rfl, .inr ht, by rw [r1.int_inv]; rfl, h1, h2⟩)
  · obtain ⟨a, vs, rfl, ht, hs⟩ := r2.tup_inv
    obtain ⟨h1, h2⟩ := in_eq r1 hs e
    exact .inr (.inl ⟨a, vs, rfl, .inr ht, by rw [r1.str_inv]; rfl, h1, h2⟩)
  · obtain ⟨a, vs, g, rfl, ht, hs, _⟩ := r2.lst_inv s
    obtain ⟨h1, h2⟩ := in_eq r1 hs e
    exact .inr (.inl ⟨a, vs, rfl, .inl (SqL.of ht), by rw [r1.int_inv]; rfl, h1, h2⟩)
  · obtain ⟨a, vs, g, rfl, ht, hs, _⟩ := r2.lst_inv s
    obtain ⟨h1, h2⟩ := in_eq r1 hs e
    exact .inr (.inl ⟨a, vs, rfl, .inl (SqL.of ht), by rw [r1.str_inv]; rfl, h1, h2⟩)
  · rename_i x xs
    cases e
    obtain ⟨a, rfl, ht⟩ := r2.ctup_inv
    refine .inr (.inl ⟨a, _, rfl, .inr ht, by rw [r1.str_inv]; rfl, by simp [List.all_map, Function.comp_def, flatV], ?_⟩)
    rw [r1.str_inv]
    exact in_strs x xs
  · exact .inr (.inr (.inl (dic e)))
  · exact .inr (.inr (.inl (dic e)))
  · rename_i xs0 o0 ys0
    split at e
    · rename_i a bs q1 q2
      split at e
      · rename_i hs
        cases e
        have q3 : D.py (.box o0 .lst ys0) = some (.list bs) := by
          unfold D.py
          rw [q2]
          rfl
        exact .inr (.inr (.inr ⟨a, bs, R.dp s r1 q1, R.dp s r2 q3, hs.1, hs.2, rfl⟩))
      · cases e
    · cases e
  · cases e
/-- is a bool, of anything -/
def rIsC : R2 := fun x y H Q => ∃ b, y = .bl b ∧ Q (.bl (decide (x = .bl b))) H
def rIsnC : R2 := fun x y H Q => ∃ b, y = .bl b ∧ Q (.bl (!decide (x = .bl b))) H
theorem plain_bool {x : V} {v : Value} {b : Bool} (r : RelV x v) : plainIs v (.bool b) = true := by
  cases x <;> first
    | (cases r; rfl)
    | (obtain ⟨t, rfl⟩ := r; rfl)
theorem relV_bool {x : V} {v : Value} {b : Bool} (r : RelV x v) : v = .bool b ↔ x = .bl b := by
  constructor
  · intro e
    subst e
    have := RelV.inj r (show RelV (.bl b) (.bool b) from rfl)
    exact this
  · intro e
    subst e
    exact r
theorem op_isC : OpR X (compareOp .Is) rIsC := by
  intro pins s σ H x y v u Q I rx ry h
  obtain ⟨b, rfl, q⟩ := h
  cases (show u = Value.bool b from ry)
  by_cases e : v = .bool b
  · have e2 := (relV_bool rx).mp e
    rw [e]
    refine wpAny_is_self (plain_bool (x := .bl b) rfl) ⟨.bl true, H, I, rfl, ?_⟩
    rw [decide_eq_true e2] at q
    exact q
  · refine wpAny_is_other (plain_bool rx) e ⟨.bl false, H, I, rfl, ?_⟩
    rw [decide_eq_false (fun z => e ((relV_bool rx).mpr z))] at q
    exact q
theorem op_isnC : OpR X (compareOp .IsNot) rIsnC := by
  intro pins s σ H x y v u Q I rx ry h
  obtain ⟨b, rfl, q⟩ := h
  cases (show u = Value.bool b from ry)
  by_cases e : v = .bool b
  · have e2 := (relV_bool rx).mp e
    rw [e]
    refine wpAny_isNot_self (plain_bool (x := .bl b) rfl) ⟨.bl false, H, I, rfl, ?_⟩
    rw [decide_eq_true e2] at q
    exact q
  · refine wpAny_isNot_other (plain_bool rx) e ⟨.bl true, H, I, rfl, ?_⟩
    rw [decide_eq_false (fun z => e ((relV_bool rx).mpr z))] at q
    exact q
theorem R.not_bl {v : V} {d : D} {fp : List Addr} {b : Bool} (r : R K F H v d fp) (n : d ≠ .dead) (e : v = .bl b) : d = .bl b := by
  cases r with
  | dead => exact absurd rfl n
  | bl c => injection e with e; rw [e]
  | _ => cases e
theorem R.not_non {v : V} {d : D} {fp : List Addr} (r : R K F H v d fp) (n : d ≠ .dead) (e : v = .non) : d = .non := by
  cases r with
  | dead => exact absurd rfl n
  | non => rfl
  | _ => cases e
theorem is_any {v w : V} {x y : D} {f f2 : List Addr} {b : Bool} (r1 : R K F H v x f) (r2 : R K F H w y f2) (e : isD x y = some b) : (w = .non ∧ decide (v = .non) = b) ∨ ∃ c, w = .bl c ∧ decide (v = .bl c) = b := by
  unfold isD at e
  split at e
  · refine .inl ⟨r2.non_inv, ?_⟩
    split at e
    · cases e
    · cases e
      rw [r1.non_inv]
      rfl
    · cases e
      rename_i n1 n2
      exact decide_eq_false fun z => n2 (r1.not_non n1 z)
  · rename_i b0
    refine .inr ⟨b0, r2.bl_inv, ?_⟩
    split at e
    · cases e
    · cases e
      rw [r1.bl_inv]
      simp
    · cases e
      rename_i n1 n2
      exact decide_eq_false fun z => n2 b0 (r1.not_bl n1 z)
  · cases e
def rCmp (K : PySem.W.Frag) : Cop → R2
  | .eq => fun x y H Q => (rEq x y H Q ∨ rEqD K x y H Q) ∨ rEqLen K x y H Q
  | .ne => fun x y H Q => rNe x y H Q ∨ rNeD K x y H Q
  | .lt => rI0 fun i j => .bl (decide (i < j))
  | .le => rI0 fun i j => .bl (decide (i ≤ j))
  | .gt => rI0 fun i j => .bl (decide (j < i))
  | .ge => rI0 fun i j => .bl (decide (j ≤ i))
  | .is_ => fun x y H Q => (y = .non ∧ Q (.bl (decide (x = .non))) H) ∨ rIsC x y H Q
  | .isn => fun x y H Q => (y = .non ∧ Q (.bl (!decide (x = .non))) H) ∨ rIsnC x y H Q
  | .in_ => rInA K
  | .nin => rNinA K
theorem op_cmp {o : Cop} {op : CmpOp} (h : copE o op = true) (hu : X.A.units + 65 < cLine) : OpR X (compareOp op) (rCmp X.K o) := by
  cases o <;> cases op <;> first | cases h | skip
  · exact (op_eq.or (op_eqD (by omega))).or (op_eqLen (by omega))
  · exact op_ne.or (op_neD (by omega))
  · exact op_lt
  · exact op_le
  · exact op_gt
  · exact op_ge
  · exact op_isN.or op_isC
  · exact op_notN.or op_isnC
  · exact op_in_sign.or (op_in_seq.or ((op_inDc (by omega)).or (op_inD hu)))
  · exact op_notIn_sign.or (op_notIn_seq.or ((op_ninDc (by omega)).or (op_notInD hu)))
theorem Res.opt_some {α : Type} {o : Option α} {W : WX} (h : Res.opt o ≠ .stuck) : ∃ a, o = some a := by
  cases o with
  | none => exact absurd rfl h
  | some a => exact ⟨a, rfl⟩
theorem rest_opt {β : Type} {o : Option β} {f : β → D} (q : Rest K W σ F H (.opt (o.map f)) view Q) : ∃ b, o = some b ∧ Rest K W σ F H (.ok (f b)) view Q := by
  cases o with
  | none => exact q.elim
  | some b => exact ⟨b, rfl, q⟩
theorem rest_cmp {o : Cop} {v w : V} {x y : D} {f f2 : List Addr} (s : Same F H) (r1 : R K F H v x f) (r2 : R K F H w y f2) (q : Rest K W σ F H (cmpD o x y) view Q) : rCmp K.fr o v w H Q := by
  unfold cmpD at q
  split at q
  · obtain ⟨b, e, q⟩ := rest_opt q
    unfold eqQ at e
    split at e
    · rename_i e2
      cases e
      exact .inl (eq_scal s r1 r2 e2 (q.sc s fun _ _ => .bl b))
    · unfold eqL at e
      split at e
      · obtain ⟨a1, vs, g1, rfl, h1, hs1, _⟩ := r1.lst_inv s
        obtain ⟨a2, ws, g2, rfl, h2, hs2, _⟩ := r2.lst_inv s
        split at e
        · cases e
        · rename_i hl
          cases e
          exact .inr ⟨a1, a2, vs, ws, rfl, rfl, SqL.of h1, SqL.of h2, by rw [hs1.length, hs2.length]; exact hl, q.sc s fun _ _ => .bl _⟩
      · cases e
  · obtain ⟨b, e, q⟩ := rest_opt q
    exact ne_scal s r1 r2 e (q.sc s fun _ _ => .bl _)
  · have e1 := r1.int_inv
    have e2 := r2.int_inv
    subst e1 e2
    exact ⟨_, _, rfl, rfl, q.sc s fun _ _ => .bl _⟩
  · have e1 := r1.int_inv
    have e2 := r2.int_inv
    subst e1 e2
    exact ⟨_, _, rfl, rfl, q.sc s fun _ _ => .bl _⟩
  · have e1 := r1.int_inv
    have e2 := r2.int_inv
    subst e1 e2
    exact ⟨_, _, rfl, rfl, q.sc s fun _ _ => .bl _⟩
  · have e1 := r1.int_inv
    have e2 := r2.int_inv
    subst e1 e2
    exact ⟨_, _, rfl, rfl, q.sc s fun _ _ => .bl _⟩
  · obtain ⟨b, e, q⟩ := rest_opt q
    have q := q.sc s fun _ _ => .bl b
    rcases is_any r1 r2 e with ⟨e1, e2⟩ | ⟨c, e1, e2⟩
    · exact .inl ⟨e1, by rw [e2]; exact q⟩
    · exact .inr ⟨c, e1, by rw [e2]; exact q⟩
  · obtain ⟨b, e, q⟩ := rest_opt q
    have q := q.sc s fun _ _ => .bl (!b)
    rcases is_any r1 r2 e with ⟨e1, e2⟩ | ⟨c, e1, e2⟩
    · exact .inl ⟨e1, by rw [e2]; exact q⟩
    · exact .inr ⟨c, e1, by rw [e2]; exact q⟩
  · obtain ⟨b, e, q⟩ := rest_opt q
    have q := q.sc s fun _ _ => .bl b
    rcases in_any s r1 r2 e with ⟨c, z, e1, e2, e3⟩ | ⟨p, xs, e1, e2, e3, e4, e5⟩ | ⟨a, o, e1, e2, e3⟩ | ⟨d, ds, e1, e2, e3, e4, e5⟩
    · exact .inl ⟨c, z, e1, e2, by rw [e3]; exact q⟩
    · exact .inr (.inl ⟨p, xs, e1, e2, e3, e4, by rw [e5]; exact q⟩)
    · exact .inr (.inr (.inl ⟨a, o, e1, e2, by rw [e3]; exact q⟩))
    · exact .inr (.inr (.inr ⟨d, ds, e1, e2, e3, e4, by rw [e5]; exact q⟩))
  · obtain ⟨b, e, q⟩ := rest_opt q
    have q := q.sc s fun _ _ => .bl (!b)
    rcases in_any s r1 r2 e with ⟨c, z, e1, e2, e3⟩ | ⟨p, xs, e1, e2, e3, e4, e5⟩ | ⟨a, o, e1, e2, e3⟩ | ⟨d, ds, e1, e2, e3, e4, e5⟩
    · exact .inl ⟨c, z, e1, e2, by rw [e3]; exact q⟩
    · exact .inr (.inl ⟨p, xs, e1, e2, e3, e4, by rw [e5]; exact q⟩)
    · exact .inr (.inr (.inl ⟨a, o, e1, e2, by rw [e3]; exact q⟩))
    · exact .inr (.inr (.inr ⟨d, ds, e1, e2, e3, e4, by rw [e5]; exact q⟩))
  · exact q.elim
end
end PX

/-! PX, part e: argument lists, slices, built-ins, methods, calls. -/
namespace PX
open PySem PySem.Spec PyProof.Rows L2

section
variable {X : Cx} {W : WX} {K : Kx} {σ : L2.St} {F H : Hp} {view : Bool} {Q : VK}

/-! ### lists of views -/
inductive RV (K : Kx) (F H : Hp) : List V → List D → Prop
  | nil : RV K F H [] []
  | cons {v : V} {vs : List V} {d : D} {ds : List D} {fp : List Addr} : R K F H v d fp → RV K F H vs ds → RV K F H (v :: vs) (d :: ds)
theorem RV.grow {F' H' : Hp} (g : Grow F H F' H') {vs : List V} {ds : List D} (h : RV K F H vs ds) : RV K F' H' vs ds := by
  induction h with
  | nil => exact .nil
  | cons h _ ih => exact .cons (g.r h) ih
theorem RV.rs {vs : List V} {ds : List D} (h : RV K F H vs ds) (e : D.nos ds = true) : Rs K F H vs ds [] := by
  induction h with
  | nil => exact .nil
  | cons h _ ih =>
    unfold D.nos at e
    obtain ⟨e1, e2⟩ := and_t e
    exact .cons (f := []) (g := []) (h.no0 e1) (ih e2) (fun _ z => nomatch z)
/-- lent: all that stands is frozen for the while -/
theorem RV.lent (s : Same F H) {vs : List V} {ds : List D} (h : RV K F H vs ds) : Rs K H H vs (D.frzs ds) [] := by
  induction h with
  | nil => exact .nil
  | cons h _ ih => exact .cons (f := []) (g := []) (R.freeze (F' := H) s h (fun _ _ => rfl)) ih (fun _ z => nomatch z)
theorem RV.length {vs : List V} {ds : List D} (h : RV K F H vs ds) : vs.length = ds.length := by
  induction h with
  | nil => rfl
  | cons _ _ ih => rw [List.length_cons, List.length_cons, ih]
def tA (K : Kx) (W : WX) (m : List D → Res D) : TA := fun σ H Q => ∃ F δ g, Same F H ∧ SR K F H σ δ g ∧
  match m δ with
  | .ok d => ∀ vs F' H', Grow F H F' H' → RV K F' H' vs (unT d) → Q vs H'
  | .exc c fs => ∀ C d F' H', K.ca c = some C → Grow F H F' H' → ExD fs d → W (.ref C) d σ H'
  | .stuck => False
/-- as Rest, of an argument list -/
def RestA (K : Kx) (W : WX) (σ : L2.St) (F H : Hp) (r : Res D) (Q : List V → Hp → Prop) : Prop :=
  match r with
  | .ok d => ∀ vs F' H', Grow F H F' H' → RV K F' H' vs (unT d) → Q vs H'
  | .exc c fs => ∀ C d F' H', K.ca c = some C → Grow F H F' H' → ExD fs d → W (.ref C) d σ H'
  | .stuck => False
theorem RestA.grow {F1 H1 : Hp} {r : Res D} {Q : List V → Hp → Prop} (h : RestA K W σ F H r Q) (a : Grow F H F1 H1) : RestA K W σ F1 H1 r Q := by
  cases r with
  | ok d => exact fun v F' H' b q => h v F' H' (a.trans b) q
  | exc c fs => exact fun C d F' H' e b q => h C d F' H' e (a.trans b) q
  | stuck => exact h
theorem RestA.mono {r : Res D} {Q Q' : List V → Hp → Prop} (h : RestA K W σ F H r Q) (k : ∀ v H, Q v H → Q' v H) : RestA K W σ F H r Q' := by
  cases r with
  | ok d => exact fun v F' H' b q => k _ _ (h v F' H' b q)
  | exc c fs => exact h
  | stuck => exact h
/-- an argument list, then what hangs on it -/
theorem Rest.bindA {r : Res D} {f : D → Res D} {view : Bool} {Q : VK} (h : Rest K W σ F H (r.bind f) view Q) :
    RestA K W σ F H r fun vs H1 => ∃ F1 x, Grow F H F1 H1 ∧ RV K F1 H1 vs (unT x) ∧ Rest K W σ F1 H1 (f x) view Q := by
  cases r with
  | ok d => exact fun v F' H' b q => ⟨F', d, b, q, Rest.grow h b⟩
  | exc c fs => exact h
  | stuck => exact h

/-! ### slices -/
theorem Rs.cut {vs : List V} {xs : List D} (h : Rs K F H vs xs []) (lo hi : Option Int) : Rs K F H (cutV vs lo hi) (cutL xs lo hi) [] := by
  unfold cutV cutL
  rw [h.length]
  exact (h.drop _).take _
theorem cut_map (xs : List Str) (lo hi : Option Int) : (cutL xs lo hi).map V.str = cutV (xs.map V.str) lo hi := by
  unfold cutL cutV
  rw [List.length_map, List.map_take, List.map_drop]
theorem rest_sl {v : V} {x : D} {f : List Addr} {lo hi : Option Int} (s : Same F H) (r1 : R K F H v x f) (q : Rest K W σ F H (slD x lo hi) view Q) : rSlS v lo hi H Q ∨ rSlL K.fr v lo hi H Q ∨ rSlT K.fr v lo hi H Q := by
  unfold slD at q
  split at q
  · have e1 := r1.str_inv
    subst e1
    split at q
    · rename_i hz
      exact .inl ⟨_, rfl, hz, q.sc s fun _ _ => .str _⟩
    · exact q.elim
  · split at q
    · rename_i hn
      obtain ⟨a, vs, g, rfl, ht, hs, _⟩ := r1.lst_inv s
      exact .inr (.inl ⟨a, vs, rfl, SqL.of ht, q.newL s ((hs.nos0 hn).cut _ _)⟩)
    · exact q.elim
  · split at q
    · exact q.elim
    · rename_i hw
      split at q
      · rename_i hn
        obtain ⟨a, vs, rfl, ht, hs⟩ := r1.tup_inv
        exact .inr (.inr ⟨a, vs, rfl, ht, by rw [hs.length]; exact hw, q.newT s ((hs.nos0 hn).cut _ _) fun _ _ z => nomatch z⟩)
      · exact q.elim
  · split at q
    · exact q.elim
    · rename_i hw
      obtain ⟨a, rfl, ht⟩ := r1.ctup_inv
      refine .inr (.inr ⟨a, _, rfl, ht, by rw [List.length_map]; exact hw, ?_⟩)
      rw [← cut_map]
      exact q.newT s (strs_rs _) fun _ _ z => nomatch z
  · exact q.elim

/-! ### built-ins -/
def bltV : Blt → Value
  | .len => .builtin "len" | .list => .type "list" | .abs => .builtin "abs" | .max2 => .builtin "max" | .min2 => .builtin "min" | .int => .type "int" | .str => .type "str" | .sum => .builtin "sum"
  | .tuple => .type "tuple" | .sorted => .builtin "sorted" | .all => .builtin "all" | .max1 => .builtin "max" | .min1 => .builtin "min"
theorem boot_blt (b : Blt) : bootBuiltins (bltName b) = some (bltV b) := by cases b <;> decide +kernel
theorem blt_mem (b : Blt) : bltName b ∈ bltNames := by cases b <;> decide +kernel
def rBlt (K : PySem.W.Frag) : Blt → List V → Hp → VK → Prop
  | .len => fun xs H Q => (∃ p ys, xs = [.ref p] ∧ (SqL K H p ys ∨ SqT K H p ys) ∧ Q (.int ys.length) H) ∨ (∃ z, xs = [.str z] ∧ z.length ≤ sizeLine ∧ Q (.int z.length) H) ∨ ((∃ a kvs, xs = [V.ref a] ∧ H a = some (.dK kvs) ∧ Q (.int kvs.length) H) ∨ rLenT xs H Q)
  | .list => fun xs H Q => (∃ p ys, xs = [.ref p] ∧ (SqL K H p ys ∨ SqT K H p ys) ∧ ∀ l, H l = none → Q (.ref l) (upd H l (.lst ys))) ∨
      ((∃ d kvs, xs = [V.ref d] ∧ Rd H d (.dT kvs) ∧ ∀ p bs, H p = none → IsKeys H kvs bs → Q (.ref p) (upd H p (.lst (bs.map V.ref)))) ∨
       ∃ z : Str, xs = [.str z] ∧ z.length ≤ sizeLine ∧ ∀ p, H p = none → Q (.ref p) (upd H p (.lst (z.cps.toList.map fun c => V.str ⟨#[c]⟩))))
  | .tuple => fun xs H Q => ∃ p ys, xs = [.ref p] ∧ ((SqL K H p ys ∧ ∀ l, H l = none → Q (.ref l) (upd H l (.tup ys))) ∨ (SqT K H p ys ∧ Q (.ref p) H))
  | .sorted => fun xs H Q => rSortedI K xs H Q ∨ rSortedPO K xs H Q
  | .all => rAll K
  | .max1 => rMax K
  | .min1 => rMin K
  | .abs => fun xs H Q => ∃ i, xs = [.int i] ∧ Q (.int (if i < 0 then -i else i)) H
  | .max2 => fun xs H Q => ∃ i j, xs = [.int i, .int j] ∧ Q (.int (if j > i then j else i)) H
  | .min2 => fun xs H Q => ∃ i j, xs = [.int i, .int j] ∧ Q (.int (if j < i then j else i)) H
  | .int => fun xs H Q => ((∃ i, xs = [.int i] ∧ Q (.int i) H) ∨ ∃ k, xs = [.bl k] ∧ Q (.int (if k then 1 else 0)) H) ∨ ∃ a n, xs = [.str a] ∧ PySem.intText? a = some n ∧ a.length ≤ 640 ∧ Q (.int n) H
  | .str => fun xs H Q => ∃ i, xs = [.int i] ∧ i.natAbs.log2 < 1920 ∧ Q (.str (toString i)) H
  | .sum => rSum K
theorem call_blt (hc : X.calm = true) (b : Blt) : CallR X (bltV b) (rBlt X.K b) := by
  cases b with
  | len => exact call_len_seq.or (call_len_str.or (call_lenD.or call_len_dT))
  | list => exact call_list_of.or ((call_list_dT hc).or (call_listS hc))
  | tuple => exact call_tuple_of
  | sorted => exact cr_sortedI.or cr_sortedPO
  | all => exact cr_all hc
  | max1 => exact cr_max hc
  | min1 => exact cr_min hc
  | abs => exact call_abs
  | max2 => exact call_max2 hc
  | min2 => exact call_min2 hc
  | int => exact call_int1.or call_int_str
  | str => exact call_str_int
  | sum => exact cr_sum hc
theorem Rs.ints {vs : List V} {xs : List D} {fp : List Addr} (h : Rs K F H vs xs fp) {ns : List Int} (e : intsOf xs = some ns) : vs = ns.map V.int := by
  induction xs generalizing vs fp ns with
  | nil =>
    cases h
    unfold intsOf at e
    cases e
    rfl
  | cons x xs ih =>
    cases h with
    | cons h hs n =>
      unfold intsOf at e
      split at e
      · rename_i e0
        cases e0
      · rename_i e0
        injection e0 with e1 e2
        subst e1 e2
        cases q : intsOf xs with
        | none => rw [q] at e; cases e
        | some ms =>
          rw [q] at e
          cases e
          rw [h.int_inv, ih hs q]
          rfl
      · cases e
theorem Rs.strs {vs : List V} {xs : List D} {fp : List Addr} (h : Rs K F H vs xs fp) {ns : List Str} (e : strsOf xs = some ns) : vs = ns.map V.str := by
  induction xs generalizing vs fp ns with
  | nil =>
    cases h
    unfold strsOf at e
    cases e
    rfl
  | cons x xs ih =>
    cases h with
    | cons h hs n =>
      unfold strsOf at e
      split at e
      · rename_i e0
        cases e0
      · rename_i e0
        injection e0 with e1 e2
        subst e1 e2
        cases q : strsOf xs with
        | none => rw [q] at e; cases e
        | some ms =>
          rw [q] at e
          cases e
          rw [h.str_inv, ih hs q]
          rfl
      · cases e
theorem Rest.keep {d : D} {v : V} {f : List Addr} (q : Rest K W σ F H (.ok d) true Q) (s : Same F H) (r : R K F H v d f) : Q v H := q v F H f (Grow.refl s) r fun z => nomatch z
theorem keys_rs {kvs : List (List Key × V)} {bs : List Addr} (h : IsKeys H kvs bs) : Rs K F H (bs.map V.ref) (kvs.map ((fun k : List Key => D.tup (k.map kD)) ∘ (·.1))) [] := by
  induction h with
  | nil => exact .nil
  | cons h hs ih => exact .cons (f := []) (g := []) (.tup h (kds_v _)) ih (fun _ z => nomatch z)
theorem Rs.bls {vs : List V} {xs : List D} {fp : List Addr} (h : Rs K F H vs xs fp) {ns : List Bool} (e : blsOf xs = some ns) : vs = ns.map V.bl := by
  induction xs generalizing vs fp ns with
  | nil =>
    cases h
    unfold blsOf at e
    cases e
    rfl
  | cons x xs ih =>
    cases h with
    | cons h hs n =>
      unfold blsOf at e
      split at e
      · rename_i e0
        cases e0
      · rename_i e0
        injection e0 with e1 e2
        subst e1 e2
        cases q : blsOf xs with
        | none => rw [q] at e; cases e
        | some ms =>
          rw [q] at e
          cases e
          rw [h.bl_inv, ih hs q]
          rfl
      · cases e
theorem ints_rs : ∀ ns : List Int, Rs K F H (ns.map V.int) (ns.map D.int) []
  | [] => .nil
  | n :: ns => .cons (f := []) (g := []) (.int n) (ints_rs ns) (fun _ z => nomatch z)
theorem insI_perm (n : Int) : ∀ ns : List Int, (insI n ns).Perm (n :: ns)
  | [] => List.Perm.refl _
  | m :: ms => by
    unfold insI
    split
    · exact List.Perm.refl _
    · exact ((insI_perm n ms).cons m).trans (List.Perm.swap n m ms)
theorem sortI_perm : ∀ ns : List Int, (sortI ns).Perm ns
  | [] => List.Perm.refl _
  | n :: ns => (insI_perm n _).trans ((sortI_perm ns).cons n)
theorem insI_sorted {n : Int} : ∀ {ns : List Int}, ns.Pairwise (· ≤ ·) → (insI n ns).Pairwise (· ≤ ·)
  | [], _ => List.pairwise_singleton _ _
  | m :: ms, h => by
    obtain ⟨h1, h2⟩ := List.pairwise_cons.mp h
    unfold insI
    split
    · rename_i hn
      refine List.pairwise_cons.mpr ⟨fun a ha => ?_, h⟩
      rcases List.mem_cons.mp ha with rfl | ha
      · exact hn
      · exact Int.le_trans hn (h1 a ha)
    · rename_i hn
      refine List.pairwise_cons.mpr ⟨fun a ha => ?_, insI_sorted h2⟩
      rcases List.mem_cons.mp ((insI_perm n ms).mem_iff.mp ha) with rfl | ha
      · omega
      · exact h1 a ha
theorem sortI_sorted : ∀ ns : List Int, (sortI ns).Pairwise (· ≤ ·)
  | [] => .nil
  | n :: ns => insI_sorted (sortI_sorted ns)
theorem sorted_uniq {ns ms : List Int} (h : ms.Perm ns) (h2 : ms.Pairwise (· ≤ ·)) : ms = sortI ns :=
  List.Perm.eq_of_pairwise (fun a b _ _ h1 h2 => Int.le_antisymm h1 h2) h2 (sortI_sorted ns) (h.trans (sortI_perm ns).symm)
theorem leP_iff {p q : Int × Int} : leP p q = true ↔ p.1 < q.1 ∨ (p.1 = q.1 ∧ p.2 ≤ q.2) := by
  unfold leP
  simp
theorem leP_total {p q : Int × Int} (h : ¬ leP p q = true) : leP q p = true := by
  rw [leP_iff] at h ⊢
  omega
theorem insP_perm (n : Int × Int) : ∀ ns : List (Int × Int), (insP n ns).Perm (n :: ns)
  | [] => List.Perm.refl _
  | m :: ms => by
    unfold insP
    split
    · exact List.Perm.refl _
    · exact ((insP_perm n ms).cons m).trans (List.Perm.swap n m ms)
theorem sortP_perm : ∀ ns : List (Int × Int), (sortP ns).Perm ns
  | [] => List.Perm.refl _
  | n :: ns => (insP_perm n _).trans ((sortP_perm ns).cons n)
theorem leP_trans {p q r : Int × Int} (h : leP p q = true) (h2 : leP q r = true) : leP p r = true := by
  rw [leP_iff] at h h2 ⊢
  omega
theorem insP_sorted {n : Int × Int} : ∀ {ns : List (Int × Int)}, ns.Pairwise (fun a b => leP a b = true) → (insP n ns).Pairwise (fun a b => leP a b = true)
  | [], _ => List.pairwise_singleton _ _
  | m :: ms, h => by
    obtain ⟨h1, h2⟩ := List.pairwise_cons.mp h
    unfold insP
    split
    · rename_i hn
      refine List.pairwise_cons.mpr ⟨fun a ha => ?_, h⟩
      rcases List.mem_cons.mp ha with rfl | ha
      · exact hn
      · exact leP_trans hn (h1 a ha)
    · rename_i hn
      refine List.pairwise_cons.mpr ⟨fun a ha => ?_, insP_sorted h2⟩
      rcases List.mem_cons.mp ((insP_perm n ms).mem_iff.mp ha) with rfl | ha
      · exact leP_total hn
      · exact h1 a ha
theorem sortP_sorted : ∀ ns : List (Int × Int), (sortP ns).Pairwise (fun a b => leP a b = true)
  | [] => .nil
  | n :: ns => insP_sorted (sortP_sorted ns)
theorem pairs_uniq {ns ms : List (Int × Int)} (h : ms.Perm ns) (h2 : ms.Pairwise fun x y => SrtO.lexB y x = false) : ms = sortP ns := by
  refine List.Perm.eq_of_pairwise (le := fun a b => leP a b = true) (fun a b _ _ h1 h2 => ?_) (h2.imp fun {a b} q => ?_) (sortP_sorted ns) (h.trans (sortP_perm ns).symm)
  · rw [leP_iff] at h1 h2
    exact Prod.ext (by omega) (by omega)
  · rw [SrtO.lexB_no] at q
    rw [leP_iff]
    omega
/-- pairs of numbers, each in its tuple -/
theorem Rs.prs {vs : List V} {xs : List D} {fp : List Addr} (h : Rs K F H vs xs fp) {ps : List (Int × Int)} (e : prsOf xs = some ps) : ∃ k : V → Int × Int, (∀ x ∈ vs, ∃ t, x = V.ref t ∧ H t = some (.tup [.int (k x).1, .int (k x).2])) ∧ vs.map k = ps := by
  have key : ∀ {vs : List V} {xs : List D} {fp : List Addr} {ps : List (Int × Int)}, Rs K F H vs xs fp → prsOf xs = some ps → vs.length = ps.length ∧ ∀ (i : Nat) (x : V) (q : Int × Int), vs[i]? = some x → ps[i]? = some q → ∃ t, x = V.ref t ∧ H t = some (.tup [.int q.1, .int q.2]) := by
    intro vs xs fp ps h e
    induction xs generalizing vs fp ps with
    | nil =>
      cases h
      unfold prsOf at e
      cases e
      exact ⟨rfl, fun i x q h => by simp at h⟩
    | cons x xs ih =>
      cases h with
      | cons h hs n =>
        unfold prsOf at e
        split at e
        · rename_i e0
          cases e0
        · rename_i i j ds e0
          injection e0 with e1 e2
          subst e1 e2
          cases q : prsOf xs with
          | none => rw [q] at e; cases e
          | some ms =>
            rw [q] at e
            cases e
            obtain ⟨l1, l2⟩ := ih hs q
            refine ⟨by simp [l1], fun i x qq h1 h2 => ?_⟩
            cases i with
            | zero =>
              simp at h1 h2
              subst h1 h2
              obtain ⟨t, ws, rfl, ht, hw⟩ := h.tup_at
              refine ⟨t, rfl, ?_⟩
              cases hw with
              | cons a1 hw _ =>
                cases hw with
                | cons a2 hw _ =>
                  cases hw
                  rw [a1.int_inv, a2.int_inv] at ht
                  exact ht
            | succ i => exact l2 i x qq (by simpa using h1) (by simpa using h2)
        · cases e
  obtain ⟨l1, l2⟩ := key h e
  let kk : V → Int × Int := fun x => match x with
    | .ref t => (match H t with | some (.tup [.int i, .int j]) => (i, j) | _ => (0, 0))
    | _ => (0, 0)
  have hk : ∀ (i : Nat) (x : V) (q : Int × Int), vs[i]? = some x → ps[i]? = some q → kk x = q := fun i x q h1 h2 => by
    obtain ⟨t, rfl, ht⟩ := l2 i x q h1 h2
    show (match H t with | some (.tup [.int i, .int j]) => (i, j) | _ => (0, 0)) = q
    rw [ht]
  refine ⟨kk, fun x hx => ?_, List.ext_getElem? fun i => ?_⟩
  · obtain ⟨i, hi⟩ := List.mem_iff_getElem?.mp hx
    have hl := (List.getElem?_eq_some_iff.mp hi).1
    have h2 : ps[i]? = some ps[i] := List.getElem?_eq_getElem (by omega)
    obtain ⟨t, e1, e2⟩ := l2 i x _ hi h2
    rw [hk i x _ hi h2]
    exact ⟨t, e1, e2⟩
  · rw [List.getElem?_map]
    cases hv : vs[i]? with
    | none =>
      have : ps[i]? = none := by
        rw [List.getElem?_eq_none_iff] at hv ⊢
        omega
      rw [this]
      rfl
    | some x =>
      have hl := (List.getElem?_eq_some_iff.mp hv).1
      have h2 : ps[i]? = some ps[i] := List.getElem?_eq_getElem (by omega)
      rw [h2]
      exact congrArg some (hk i x _ hv h2)
theorem prs_rs (k : V → Int × Int) : ∀ ys : List V, (∀ x ∈ ys, ∃ t, x = V.ref t ∧ H t = some (.tup [.int (k x).1, .int (k x).2])) → Rs K F H ys ((ys.map k).map prD) []
  | [], _ => .nil
  | y :: ys, h => by
    obtain ⟨t, e, ht⟩ := h y (by simp)
    refine .cons (f := []) (g := []) ?_ (prs_rs k ys fun x hx => h x (List.mem_cons_of_mem _ hx)) (fun _ z => nomatch z)
    rw [e] at ht ⊢
    exact .tup ht (.cons (f := []) (g := []) (.int _) (.cons (f := []) (g := []) (.int _) .nil (fun _ z => nomatch z)) (fun _ z => nomatch z))
theorem maxL_ok : ∀ {ns : List Int} {m : Int}, maxL ns = some m → m ∈ ns ∧ ∀ y ∈ ns, y ≤ m
  | [], _, e => by cases e
  | n :: ns, m, e => by
    unfold maxL at e
    cases q : maxL ns with
    | none =>
      rw [q] at e
      cases e
      cases ns with
      | nil => exact ⟨by simp, fun y hy => by simp at hy; omega⟩
      | cons a as =>
        unfold maxL at q
        split at q <;> cases q
    | some k =>
      rw [q] at e
      obtain ⟨h1, h2⟩ := maxL_ok q
      dsimp only at e
      split at e
      · cases e
        exact ⟨List.mem_cons_of_mem _ h1, fun y hy => by
          rcases List.mem_cons.mp hy with rfl | hy
          · omega
          · exact h2 y hy⟩
      · cases e
        exact ⟨by simp, fun y hy => by
          rcases List.mem_cons.mp hy with rfl | hy
          · omega
          · have := h2 y hy
            omega⟩
theorem minL_ok : ∀ {ns : List Int} {m : Int}, minL ns = some m → m ∈ ns ∧ ∀ y ∈ ns, m ≤ y
  | [], _, e => by cases e
  | n :: ns, m, e => by
    unfold minL at e
    cases q : minL ns with
    | none =>
      rw [q] at e
      cases e
      cases ns with
      | nil => exact ⟨by simp, fun y hy => by simp at hy; omega⟩
      | cons a as =>
        unfold minL at q
        split at q <;> cases q
    | some k =>
      rw [q] at e
      obtain ⟨h1, h2⟩ := minL_ok q
      dsimp only at e
      split at e
      · cases e
        exact ⟨List.mem_cons_of_mem _ h1, fun y hy => by
          rcases List.mem_cons.mp hy with rfl | hy
          · omega
          · exact h2 y hy⟩
      · cases e
        exact ⟨by simp, fun y hy => by
          rcases List.mem_cons.mp hy with rfl | hy
          · omega
          · have := h2 y hy
            omega⟩
theorem rest_blt {b : Blt} {vs : List V} {ds : List D} (s : Same F H) (r : RV K F H vs ds) (q : Rest K W σ F H (bltD b ds) view Q) : rBlt K.fr b vs H Q := by
  unfold bltD at q
  split at q
  · cases r with
    | cons r rr =>
      cases rr
      obtain ⟨a, vs, rfl, ht, hs⟩ := r.tup_inv
      exact .inl ⟨a, vs, rfl, .inr ht, by rw [hs.length]; exact q.sc s fun _ _ => .int _⟩
  · cases r with
    | cons r rr =>
      cases rr
      obtain ⟨a, vs, g, rfl, ht, hs, _⟩ := r.lst_inv s
      exact .inl ⟨a, vs, rfl, .inl (SqL.of ht), by rw [hs.length]; exact q.sc s fun _ _ => .int _⟩
  · cases r with
    | cons r rr =>
      cases rr
      obtain ⟨a, rfl, ht⟩ := r.scr_inv s
      exact .inl ⟨a, _, rfl, .inl ht, by rw [List.length_map]; exact q.sc s fun _ _ => .int _⟩
  · cases r with
    | cons r rr =>
      cases rr
      have e := r.str_inv
      subst e
      split at q
      · rename_i hz
        exact .inr (.inl ⟨_, rfl, hz, q.sc s fun _ _ => .int _⟩)
      · exact q.elim
  · cases r with
    | cons r rr =>
      cases rr
      obtain ⟨a, vs, rfl, ht, hs⟩ := r.tup_inv
      split at q
      · rename_i hn
        exact .inl ⟨a, vs, rfl, .inr ht, q.newL s (hs.nos0 hn)⟩
      · exact q.elim
  · cases r with
    | cons r rr =>
      cases rr
      obtain ⟨a, vs, g, rfl, ht, hs, _⟩ := r.lst_inv s
      split at q
      · rename_i hn
        exact .inl ⟨a, vs, rfl, .inl (SqL.of ht), q.newL s (hs.nos0 hn)⟩
      · exact q.elim
  · cases r with
    | cons r rr =>
      cases rr
      have e := r.str_inv
      subst e
      split at q
      · rename_i hz
        rename_i z0 _
        refine .inr (.inr ⟨_, rfl, hz, fun p np => q.newL s ?_ p np⟩)
        have := strs_rs (K := K) (F := F) (H := H) (z0.cps.toList.map fun c => (⟨#[c]⟩ : Str))
        simpa [List.map_map, Function.comp_def] using this
      · exact q.elim
  · cases r with
    | cons r rr =>
      cases rr
      have e := r.int_inv
      subst e
      exact ⟨_, rfl, q.sc s fun _ _ => .int _⟩
  · cases r with
    | cons r rr =>
      cases rr with
      | cons r2 rr =>
        cases rr
        have e := r.int_inv
        have e2 := r2.int_inv
        subst e e2
        exact ⟨_, _, rfl, q.sc s fun _ _ => .int _⟩
  · cases r with
    | cons r rr =>
      cases rr with
      | cons r2 rr =>
        cases rr
        have e := r.int_inv
        have e2 := r2.int_inv
        subst e e2
        exact ⟨_, _, rfl, q.sc s fun _ _ => .int _⟩
  · cases r with
    | cons r rr =>
      cases rr
      have e := r.int_inv
      subst e
      exact .inl (.inl ⟨_, rfl, q.sc s fun _ _ => .int _⟩)
  · cases r with
    | cons r rr =>
      cases rr
      have e := r.bl_inv
      subst e
      exact .inl (.inr ⟨_, rfl, q.sc s fun _ _ => .int _⟩)
  · cases r with
    | cons r rr =>
      cases rr
      have e := r.str_inv
      subst e
      split at q
      · rename_i n hn
        split at q
        · rename_i hl
          exact .inr ⟨_, n, rfl, hn, hl, q.sc s fun _ _ => .int _⟩
        · exact q.elim
      · exact q.elim
  · cases r with
    | cons r rr =>
      cases rr
      have e := r.int_inv
      subst e
      split at q
      · rename_i hl
        exact ⟨_, rfl, hl, q.sc s fun _ _ => .str _⟩
      · exact q.elim
  · cases r with
    | cons r rr =>
      cases rr
      obtain ⟨a, vs, g, rfl, ht, hs, _⟩ := r.lst_inv s
      obtain ⟨ns, e, q⟩ := rest_opt q
      have e2 := hs.ints e
      subst e2
      exact ⟨a, ns, rfl, SqL.of ht, q.sc s fun _ _ => .int _⟩
  · cases r with
    | cons r rr =>
      cases rr
      obtain ⟨a, rfl, ht⟩ := r.ctup_inv
      exact .inl ⟨a, _, rfl, .inr ht, by rw [List.length_map]; exact q.sc s fun _ _ => .int _⟩
  · cases r with
    | cons r rr =>
      cases rr
      obtain ⟨a, kvs, g, rfl, ht, rfl, hs, _⟩ := r.dk_inv s
      exact .inr (.inr (.inl ⟨a, kvs, rfl, ht, by rw [List.length_map] at q; exact q.sc s fun _ _ => .int _⟩))
  · cases r with
    | cons r rr =>
      cases rr
      obtain ⟨a, kvs, g, rfl, ht, rfl, hs, _⟩ := r.dt_inv s
      exact .inr (.inr (.inr ⟨a, kvs, rfl, ht, by rw [List.length_map] at q; exact q.sc s fun _ _ => .int _⟩))
  · cases r with
    | cons r rr =>
      cases rr
      obtain ⟨a, kvs, g, rfl, ht, rfl, hs, _⟩ := r.dt_inv s
      refine .inr (.inl ⟨a, kvs, rfl, .inl ht, fun p bs np hk => q.newL s (vs := bs.map V.ref) ?_ p np⟩)
      rw [List.map_map]
      exact keys_rs hk
  · cases r with
    | cons r rr =>
      cases rr
      obtain ⟨a, vs, g, rfl, ht, hs, _⟩ := r.lst_inv s
      split at q
      · rename_i hn
        exact ⟨a, vs, rfl, .inl ⟨SqL.of ht, q.newT s (hs.nos0 hn) fun _ _ z => nomatch z⟩⟩
      · exact q.elim
  · cases r with
    | cons r rr =>
      cases rr
      obtain ⟨a, vs, e, ht, hs⟩ := r.tup_inv
      cases e
      split at q
      · rename_i hn
        exact ⟨a, vs, rfl, .inr ⟨ht, q.ok (Grow.refl s) (r.no0 (show D.nos _ = true from hn)) fun _ _ z => nomatch z⟩⟩
      · exact q.elim
  · cases r with
    | cons r rr =>
      cases rr
      obtain ⟨a, vs, g, rfl, ht, hs, _⟩ := r.lst_inv s
      obtain ⟨ys, e, q⟩ := rest_opt q
      unfold sortD at e
      split at e
      · rename_i ns en
        cases e
        have e2 := hs.ints en
        subst e2
        refine .inl ⟨a, ns, rfl, SqL.of ht, fun ns' p h1 h2 np => ?_⟩
        have e3 := sorted_uniq h1 h2
        subst e3
        exact q.newL s (ints_rs _) p np
      · obtain ⟨ps, ep, rfl⟩ := Option.map_eq_some_iff.mp e
        obtain ⟨kk, h1, h2⟩ := hs.prs ep
        refine .inr ⟨a, vs, kk, rfl, SqL.of ht, h1, fun ys p s1 s2 np => ?_⟩
        have e3 : ys.map kk = sortP ps := by
          rw [← h2]
          exact pairs_uniq (s2.perm.map kk) (List.pairwise_map.mpr s1)
        refine q.newL s ?_ p np
        rw [← e3]
        refine prs_rs kk ys fun x hx => ?_
        exact h1 x (s2.perm.mem_iff.mp hx)
  · cases r with
    | cons r rr =>
      cases rr
      obtain ⟨a, vs, g, rfl, ht, hs, _⟩ := r.lst_inv s
      obtain ⟨bs, e, q⟩ := rest_opt q
      have e2 := hs.bls e
      subst e2
      exact ⟨a, bs, rfl, SqL.of ht, q.sc s fun _ _ => .bl _⟩
  · cases r with
    | cons r rr =>
      cases rr
      obtain ⟨a, vs, g, rfl, ht, hs, _⟩ := r.lst_inv s
      cases e : intsOf _ with
      | none => rw [e] at q; exact q.elim
      | some ns =>
        rw [e] at q
        have e2 := hs.ints e
        subst e2
        cases em : maxL ns with
        | none => rw [Option.bind_some, em] at q; exact q.elim
        | some m =>
          rw [Option.bind_some, em] at q
          obtain ⟨m1, m2⟩ := maxL_ok em
          refine ⟨a, ns, rfl, SqL.of ht, List.length_pos_of_mem m1, fun m' h1 h2 => ?_⟩
          have : m' = m := Int.le_antisymm (m2 m' h1) (h2 m m1)
          rw [this]
          exact q.sc s fun _ _ => .int _
  · cases r with
    | cons r rr =>
      cases rr
      obtain ⟨a, vs, g, rfl, ht, hs, _⟩ := r.lst_inv s
      cases e : intsOf _ with
      | none => rw [e] at q; exact q.elim
      | some ns =>
        rw [e] at q
        have e2 := hs.ints e
        subst e2
        cases em : minL ns with
        | none => rw [Option.bind_some, em] at q; exact q.elim
        | some m =>
          rw [Option.bind_some, em] at q
          obtain ⟨m1, m2⟩ := minL_ok em
          refine ⟨a, ns, rfl, SqL.of ht, List.length_pos_of_mem m1, fun m' h1 h2 => ?_⟩
          have : m' = m := Int.le_antisymm (h2 m m1) (m2 m' h1)
          rw [this]
          exact q.sc s fun _ _ => .int _
  · exact q.elim

/-! ### methods of texts -/
theorem mt_indexF : MtR X "str.index" (fun x xs H Q => ∃ (a b : Str) (k : Nat), x = .str a ∧ xs = [.str b] ∧ Txt.index0 a b = some k ∧ Q (.int (k : Nat)) H) := by
  intro pins s σ H x xs v us Q I rx rs h
  obtain ⟨a, b, k, rfl, rfl, hk, q0⟩ := h
  obtain ⟨t, rfl⟩ := rx
  cases rs with
  | cons r1 rs =>
    cases rs
    obtain ⟨u, rfl⟩ := r1
    cases q : Builtin.Str.occurrences a b 0 a.length 1 with
    | nil =>
      unfold Txt.index0 at hk
      rw [q] at hk
      cases hk
    | cons k' rest =>
      unfold Txt.index0 at hk
      rw [q] at hk
      cases hk
      exact PySem.SC.index q ⟨.int (k : Nat), H, I.tok _, ⟨_, rfl⟩, q0⟩
def rMth (K : PySem.W.Frag) : Mth → V → List V → Hp → VK → Prop
  | .join => fun x xs H Q => ∃ a p, ∃ ys : List Str, x = .str a ∧ xs = [.ref p] ∧ (SqL K H p (ys.map V.str) ∨ SqT K H p (ys.map V.str)) ∧ (ys.map (·.length)).sum + ys.length * a.length ≤ 16777216 ∧ Q (.str (Txt.join a ys)) H
  | .index => fun x xs H Q => ∃ (a b : Str) (k : Nat), x = .str a ∧ xs = [.str b] ∧ Txt.index0 a b = some k ∧ Q (.int (k : Nat)) H
  | .split => fun x xs H Q => ∃ a b, x = .str a ∧ xs = [.str b] ∧ (b.length == 0) = false ∧ a.length + 2 ≤ sizeLine ∧ rNewStrs (Txt.split a b) H Q
  | .count => fun x xs H Q => ∃ a b, x = .str a ∧ xs = [.str b] ∧ Q (.int (Txt.count a b)) H
theorem pe_mth {m : Mth} {o e : Expr} {apos pos : Pos} {to te : TE} (ho : PE X o to) (he : PE X e te) (h1 : notStar e = true) (h2 : notCall o = true) (h3 : (apos.endLine == pos.line) = true) :
    PE X (.Call (.Attribute o (mthName m) apos) [e] [] pos) (tM1 (rMth X.K m) to te) := by
  cases m with
  | join => exact pe_m1 F.slot_str_join F.type_str_join mt_join ho he (by rw [star_of h1]; rfl) (base_of h2) h3
  | index => exact pe_m1 F.slot_str_index F.type_str_index mt_indexF ho he (by rw [star_of h1]; rfl) (base_of h2) h3
  | split => exact pe_m1 F.slot_str_split F.type_str_split mt_split ho he (by rw [star_of h1]; rfl) (base_of h2) h3
  | count => exact pe_m1 F.slot_str_count F.type_str_count mt_count ho he (by rw [star_of h1]; rfl) (base_of h2) h3
def rMz : Mz → V → List V → Hp → VK → Prop
  | .upper => fun x xs H Q => ∃ a, x = .str a ∧ xs = [] ∧ a.length ≤ 5592405 ∧ Q (.str (Txt.upper a)) H
theorem rest_mth {m : Mth} {v w : V} {x y : D} {f f2 : List Addr} (s : Same F H) (r1 : R K F H v x f) (r2 : R K F H w y f2) (q : Rest K W σ F H (mthD m x y) view Q) : rMth K.fr m v [w] H Q := by
  unfold mthD at q
  split at q
  · have e1 := r1.str_inv
    subst e1
    obtain ⟨a, vs, g, rfl, ht, hs, _⟩ := r2.lst_inv s
    split at q
    · rename_i ys e
      have e2 := hs.strs e
      subst e2
      split at q
      · rename_i hz
        exact ⟨_, a, ys, rfl, rfl, .inl (SqL.of ht), hz, q.sc s fun _ _ => .str _⟩
      · exact q.elim
    · exact q.elim
  · have e1 := r1.str_inv
    subst e1
    obtain ⟨a, vs, rfl, ht, hs⟩ := r2.tup_inv
    split at q
    · rename_i ys e
      have e2 := hs.strs e
      subst e2
      split at q
      · rename_i hz
        exact ⟨_, a, ys, rfl, rfl, .inr ht, hz, q.sc s fun _ _ => .str _⟩
      · exact q.elim
    · exact q.elim
  · have e1 := r1.str_inv
    have e2 := r2.str_inv
    subst e1 e2
    obtain ⟨k, e, q⟩ := rest_opt q
    exact ⟨_, _, k, rfl, rfl, e, q.sc s fun _ _ => .int _⟩
  · have e1 := r1.str_inv
    have e2 := r2.str_inv
    subst e1 e2
    split at q
    · rename_i hz
      exact ⟨_, _, rfl, rfl, by simpa using hz.1, hz.2, q.newL s (strs_rs _)⟩
    · exact q.elim
  · have e1 := r1.str_inv
    have e2 := r2.str_inv
    subst e1 e2
    exact ⟨_, _, rfl, rfl, q.sc s fun _ _ => .int _⟩
  · exact q.elim
theorem mth_str {m : Mth} {v : V} {x y : D} {f : List Addr} (r1 : R K F H v x f) (q : Rest K W σ F H (mthD m x y) view Q) : ∃ a, v = .str a := by
  unfold mthD at q
  split at q
  · exact ⟨_, r1.str_inv⟩
  · exact ⟨_, r1.str_inv⟩
  · exact ⟨_, r1.str_inv⟩
  · exact ⟨_, r1.str_inv⟩
  · exact ⟨_, r1.str_inv⟩
  · exact q.elim

/-! ### isinstance -/
def isiNames : List Str := ["bool", "str", "list", "tuple", "int"]
theorem isi_case {t : Str} (h : t = "bool" ∨ t = "str" ∨ t = "list" ∨ t = "tuple" ∨ t = "int") : ∃ T : String, (T = "bool" ∨ T = "str" ∨ T = "list" ∨ T = "tuple" ∨ T = "int") ∧ t = Str.ofString T ∧ bootBuiltins t = some (.type T) ∧ t ∈ bltNames := by
  rcases h with h | h | h | h | h
  · exact ⟨"bool", .inl rfl, h, by rw [h]; decide +kernel, by rw [h]; decide +kernel⟩
  · exact ⟨"str", .inr (.inl rfl), h, by rw [h]; decide +kernel, by rw [h]; decide +kernel⟩
  · exact ⟨"list", .inr (.inr (.inl rfl)), h, by rw [h]; decide +kernel, by rw [h]; decide +kernel⟩
  · exact ⟨"tuple", .inr (.inr (.inr (.inl rfl))), h, by rw [h]; decide +kernel, by rw [h]; decide +kernel⟩
  · exact ⟨"int", .inr (.inr (.inr (.inr rfl))), h, by rw [h]; decide +kernel, by rw [h]; decide +kernel⟩
def tyN : D → String
  | .non => "NoneType" | .bl _ => "bool" | .int _ => "int" | .str _ => "str" | .tup _ => "tuple" | _ => "list"
theorem SqT.ty {a : Addr} {xs : List V} (h : SqT K.fr H a xs) : TyX K.fr H (.ref a) (.type "tuple") := by
  rcases h with (h | ⟨o, h⟩) | ⟨o, its, n, h, c, _⟩
  · exact .base (.tup h)
  · exact .fTuple h
  · exact .kTuple h c
theorem kit_all : ∀ a ∈ (["NoneType", "bool", "int", "str", "tuple", "list"] : List String), ∀ b ∈ (["bool", "str", "list", "tuple", "int"] : List String), kitB a b = some (decide (a = b) || (decide (a = "bool") && decide (b = "int"))) := by decide +kernel
theorem ofString_inj : ∀ a ∈ (["NoneType", "bool", "int", "str", "tuple", "list"] : List String), ∀ b ∈ (["bool", "str", "list", "tuple", "int"] : List String), decide ((Str.ofString b) = Str.ofString a) = decide (a = b) := by decide +kernel
theorem rest_isi {v : V} {x : D} {t : Str} {f : List Addr} (s : Same F H) (r1 : R K F H v x f) (q : Rest K W σ F H (isiD x t) view Q) :
    ∃ (T : String) (u : Value) (b : Bool), bootBuiltins t = some (.type T) ∧ t ∈ bltNames ∧ TyX K.fr H v u ∧ PySem.W.kitOne K.fr u (.type T) = some b ∧ Q (.bl b) H := by
  unfold isiD at q
  split at q
  · rename_i h
    obtain ⟨T, hT, rfl, e1, e2⟩ := isi_case h
    have hTm : T ∈ (["bool", "str", "list", "tuple", "int"] : List String) := by
      rcases hT with h | h | h | h | h <;> rw [h] <;> decide
    have go : ∀ (n : String) (b : Bool), n ∈ (["NoneType", "bool", "int", "str", "tuple", "list"] : List String) → TyX K.fr H v (.type n) → (decide (n = T) || (decide (n = "bool") && decide (T = "int"))) = b → Q (.bl b) H →
        ∃ (T' : String) (u : Value) (b : Bool), bootBuiltins (Str.ofString T) = some (.type T') ∧ (Str.ofString T) ∈ bltNames ∧ TyX K.fr H v u ∧ PySem.W.kitOne K.fr u (.type T') = some b ∧ Q (.bl b) H := fun n b hn ty eb qq =>
      ⟨T, .type n, b, e1, e2, ty, by rw [← eb]; exact kit_ty (kit_all n hn T hTm), qq⟩
    have dec : ∀ n ∈ (["NoneType", "bool", "int", "str", "tuple", "list"] : List String), decide (Str.ofString T = Str.ofString n) = decide (n = T) := fun n hn => ofString_inj n hn T hTm
    split at q
    · rw [r1.non_inv] at go ⊢
      refine go "NoneType" false (by decide) (.base .non) ?_ (q.sc s fun _ _ => .bl _)
      rcases hT with h | h | h | h | h <;> rw [h] <;> decide
    · rw [r1.bl_inv] at go ⊢
      have q := q.sc s fun _ _ => .bl _
      refine go "bool" _ (by decide) (.base (.bl _)) rfl ?_
      have a1 := dec "bool" (by decide)
      have a2 := dec "int" (by decide)
      rw [show (("bool" : Str)) = Str.ofString "bool" from rfl, show (("int" : Str)) = Str.ofString "int" from rfl, a1, a2] at q
      have a3 : (decide ("bool" = T) || (decide (("bool" : String) = "bool") && decide (T = "int"))) = (decide ("bool" = T) || decide ("int" = T)) := by
        rcases hT with h | h | h | h | h <;> rw [h] <;> decide
      rw [a3]
      exact q
    · rw [r1.int_inv] at go ⊢
      have q := q.sc s fun _ _ => .bl _
      refine go "int" _ (by decide) (.base (.int _)) rfl ?_
      have a1 := dec "int" (by decide)
      rw [show (("int" : Str)) = Str.ofString "int" from rfl, a1] at q
      have a3 : (decide ("int" = T) || (decide (("int" : String) = "bool") && decide (T = "int"))) = (decide ("int" = T)) := by
        rcases hT with h | h | h | h | h <;> rw [h] <;> decide
      rw [a3]
      exact q
    · rw [r1.str_inv] at go ⊢
      have q := q.sc s fun _ _ => .bl _
      refine go "str" _ (by decide) (.base (.str _)) rfl ?_
      have a1 := dec "str" (by decide)
      rw [show (("str" : Str)) = Str.ofString "str" from rfl, a1] at q
      have a3 : (decide ("str" = T) || (decide (("str" : String) = "bool") && decide (T = "int"))) = (decide ("str" = T)) := by
        rcases hT with h | h | h | h | h <;> rw [h] <;> decide
      rw [a3]
      exact q
    · obtain ⟨a, vs, rfl, ht, hs⟩ := r1.tup_inv
      have q := q.sc s fun _ _ => .bl _
      refine go "tuple" _ (by decide) (SqT.ty ht) rfl ?_
      have a1 := dec "tuple" (by decide)
      rw [show (("tuple" : Str)) = Str.ofString "tuple" from rfl, a1] at q
      have a3 : (decide ("tuple" = T) || (decide (("tuple" : String) = "bool") && decide (T = "int"))) = (decide ("tuple" = T)) := by
        rcases hT with h | h | h | h | h <;> rw [h] <;> decide
      rw [a3]
      exact q
    · obtain ⟨a, vs, g, rfl, ht, hs, _⟩ := r1.lst_inv s
      have q := q.sc s fun _ _ => .bl _
      refine go "list" _ (by decide) (.base (.lst ht)) rfl ?_
      have a1 := dec "list" (by decide)
      rw [show (("list" : Str)) = Str.ofString "list" from rfl, a1] at q
      have a3 : (decide ("list" = T) || (decide (("list" : String) = "bool") && decide (T = "int"))) = (decide ("list" = T)) := by
        rcases hT with h | h | h | h | h <;> rw [h] <;> decide
      rw [a3]
      exact q
    · exact q.elim
  · exact q.elim
end
end PX

/-! PX, part f: tests, displays, calls, what is walked. -/
namespace PX
open PySem PySem.Spec PyProof.Rows L2

section
variable {X : Cx} {W : WX} {K : Kx} {σ : L2.St} {F H : Hp} {view : Bool} {Q : VK}
/-! ### tests -/
def RestT (K : Kx) (W : WX) (σ : L2.St) (F H : Hp) (r : Res D) (Q : Bool → Hp → Prop) : Prop :=
  match r with
  | .ok (.bl b) => ∀ F' H', Grow F H F' H' → Q b H'
  | .ok _ => False
  | .exc c fs => ∀ C d F' H', K.ca c = some C → Grow F H F' H' → ExD fs d → W (.ref C) d σ H'
  | .stuck => False
def tT (K : Kx) (W : WX) (m : List D → Res D) : TT := fun σ H Q => ∃ F δ g, Same F H ∧ SR K F H σ δ g ∧ RestT K W σ F H (m δ) Q
theorem RestT.grow {F1 H1 : Hp} {r : Res D} {Q : Bool → Hp → Prop} (h : RestT K W σ F H r Q) (a : Grow F H F1 H1) : RestT K W σ F1 H1 r Q := by
  cases r with
  | ok d => cases d <;> first | exact h | exact fun F' H' b => h F' H' (a.trans b)
  | exc c fs => exact fun C d F' H' e b q => h C d F' H' e (a.trans b) q
  | stuck => exact h
theorem RestT.mono {r : Res D} {Q Q' : Bool → Hp → Prop} (h : RestT K W σ F H r Q) (k : ∀ v H, Q v H → Q' v H) : RestT K W σ F H r Q' := by
  cases r with
  | ok d => cases d <;> first | exact h | exact fun F' H' b => k _ _ (h F' H' b)
  | exc c fs => exact h
  | stuck => exact h
/-- a test, then the ways -/
theorem Rest.bindT {r a b : Res D} {view : Bool} {Q : VK} (h : Rest K W σ F H (r.bind fun x => cndD x a b) view Q) : RestT K W σ F H r fun c H1 => ∃ F1, Grow F H F1 H1 ∧ Rest K W σ F1 H1 (if c then a else b) view Q := by
  cases r with
  | ok d =>
    cases d <;> first
      | exact h
      | (rename_i c
         intro F' H' g
         refine ⟨F', g, Rest.grow ?_ g⟩
         cases c <;> exact h)
  | exc c fs => exact h
  | stuck => exact h
theorem RestT.bindT {r a b : Res D} {Q : Bool → Hp → Prop} (h : RestT K W σ F H (r.bind fun x => cndD x a b) Q) : RestT K W σ F H r fun c H1 => ∃ F1, Grow F H F1 H1 ∧ RestT K W σ F1 H1 (if c then a else b) Q := by
  cases r with
  | ok d =>
    cases d <;> first
      | exact h
      | (rename_i c
         intro F' H' g
         refine ⟨F', g, RestT.grow ?_ g⟩
         cases c <;> exact h)
  | exc c fs => exact h
  | stuck => exact h
/-- as a value -/
theorem RestT.rest {r : Res D} {Q : Bool → Hp → Prop} (h : RestT K W σ F H r Q) (view : Bool) : Rest K W σ F H r view fun v H1 => ∃ b, v = .bl b ∧ Q b H1 := by
  cases r with
  | ok d =>
    cases d <;> first
      | exact h.elim
      | exact fun v F' H' fp g q _ => ⟨_, q.bl_inv, h F' H' g⟩
  | exc c fs => exact h
  | stuck => exact h
theorem PT.ofPE {x : Expr} {m : List D → Res D} {view : Bool} (h : PE X x (tE K W m view)) (hp : plainT x = true) : PT X x (tT K W m) := by
  refine PT.imp (pt_val h (plain_of hp)) fun σ H Q q => ?_
  obtain ⟨F, δ, g, s, r, q⟩ := q
  exact ⟨F, δ, g, s, r, q.rest view⟩

/-! ### displays -/
def RestK (K : Kx) (W : WX) (σ : L2.St) (F H : Hp) (r : Res D) (Q : List V → Hp → Prop) : Prop :=
  match r with
  | .ok d => ∀ vs F' H' fp, Grow F H F' H' → Rs K F' H' vs (unT d) fp → (∀ p ∈ fp, H p = none) → Q vs H'
  | .exc c fs => ∀ C d F' H', K.ca c = some C → Grow F H F' H' → ExD fs d → W (.ref C) d σ H'
  | .stuck => False
def tK (K : Kx) (W : WX) (m : List D → Res D) : TA := fun σ H Q => ∃ F δ g, Same F H ∧ SR K F H σ δ g ∧ RestK K W σ F H (m δ) Q
theorem RestK.grow {F1 H1 : Hp} {r : Res D} {Q : List V → Hp → Prop} (h : RestK K W σ F H r Q) (a : Grow F H F1 H1) : RestK K W σ F1 H1 r Q := by
  cases r with
  | ok d => exact fun v F' H' fp b q n => h v F' H' fp (a.trans b) q fun p hp => a.fresh (n p hp)
  | exc c fs => exact fun C d F' H' e b q => h C d F' H' e (a.trans b) q
  | stuck => exact h
theorem Rest.bindK {r : Res D} {f : D → Res D} {view : Bool} {Q : VK} (h : Rest K W σ F H (r.bind f) view Q) :
    RestK K W σ F H r fun vs H1 => ∃ F1 x fp, Grow F H F1 H1 ∧ Rs K F1 H1 vs (unT x) fp ∧ (∀ p ∈ fp, H p = none) ∧ Rest K W σ F H (f x) view Q := by
  cases r with
  | ok d => exact fun v F' H' fp b q n => ⟨F', d, fp, b, q, n, h⟩
  | exc c fs => exact h
  | stuck => exact h
theorem Rest.putT {F1 H1 : Hp} {ds : List D} {view : Bool} {Q : VK} (h : Rest K W σ F H (.ok (.tup ds)) view Q) (gr : Grow F H F1 H1) {vs : List V} {fp : List Addr} (q : Rs K F1 H1 vs ds fp) (n2 : ∀ p ∈ fp, H p = none) : ∀ p, H1 p = none → Q (.ref p) (upd H1 p (.tup vs)) := fun p n =>
  h _ _ _ fp (gr.trans (Grow.new gr.fh n)) (.tup upd_same ((Grow.new gr.fh n).rs q)) fun _ => n2
theorem Rest.putL {F1 H1 : Hp} {ds : List D} {view : Bool} {Q : VK} (h : Rest K W σ F H (.ok (.box true .lst ds)) view Q) (gr : Grow F H F1 H1) {vs : List V} {fp : List Addr} (q : Rs K F1 H1 vs ds fp) (n2 : ∀ p ∈ fp, H p = none) : ∀ p, H1 p = none → Q (.ref p) (upd H1 p (.lst vs)) := fun p n =>
  h _ _ _ (p :: fp) (gr.trans (Grow.new gr.fh n)) (.own (k := .lst) upd_same (.lst vs) (not_frozen gr.fh n) ((Grow.new gr.fh n).rs q) (fun z => by
    obtain ⟨_, k, o, vs, e, _⟩ := q.there p z
    rw [n] at e
    cases e)) fun _ a ha => by
    rcases List.mem_cons.mp ha with rfl | ha
    · exact gr.fresh n
    · exact n2 a ha
/-- a value to keep: its boxes are new, or no slot's -/
theorem vl_ok {view : Bool} {d d' : D} (h : vlD view d = .ok d') : d' = d ∧ (view = true → d.no = true) := by
  unfold vlD at h
  split at h
  · cases h
  · rename_i n
    cases h
    refine ⟨rfl, fun e => ?_⟩
    subst e
    simpa using n
theorem vl_fresh {view : Bool} {d : D} {v : V} {F' H' : Hp} {fp : List Addr} (hv : view = true → d.no = true) (r : R K F' H' v d fp) (n : view = false → ∀ p ∈ fp, H p = none) : ∀ p ∈ fp, H p = none := by
  cases view with
  | false => exact n rfl
  | true =>
    rw [r.noOwn (hv rfl)]
    exact fun _ z => nomatch z
theorem Rest.vl {r : Res D} {view : Bool} {Q : VK} (h : Rest K W σ F H (r.bind (vlD view)) false Q) : Rest K W σ F H r view Q := by
  cases r with
  | ok d =>
    cases e : vlD view d with
    | ok d' =>
      obtain ⟨e1, e2⟩ := vl_ok e
      subst e1
      have h : Rest K W σ F H (vlD view d') false Q := h
      rw [e] at h
      exact fun v F' H' fp g r n => h v F' H' fp g r fun _ => vl_fresh e2 r n
    | exc c fs => unfold vlD at e; split at e <;> cases e
    | stuck =>
      have h : Rest K W σ F H (vlD view d) false Q := h
      rw [e] at h
      exact h.elim
  | exc c fs => exact h
  | stuck => exact h
theorem RestK.vlb {r : Res D} {f : D → Res D} {view : Bool} {Q : List V → Hp → Prop} (h : RestK K W σ F H ((r.bind (vlD view)).bind f) Q) :
    Rest K W σ F H r view fun v H1 => ∃ F1 x fp, Grow F H F1 H1 ∧ R K F1 H1 v x fp ∧ (∀ p ∈ fp, H p = none) ∧ RestK K W σ F H (f x) Q := by
  cases r with
  | ok d =>
    cases e : vlD view d with
    | ok d' =>
      obtain ⟨e1, e2⟩ := vl_ok e
      subst e1
      have h : RestK K W σ F H ((vlD view d').bind f) Q := h
      rw [e] at h
      exact fun v F' H' fp g r n => ⟨F', d', fp, g, r, vl_fresh e2 r n, h⟩
    | exc c fs => unfold vlD at e; split at e <;> cases e
    | stuck =>
      have h : RestK K W σ F H ((vlD view d).bind f) Q := h
      rw [e] at h
      exact h.elim
  | exc c fs => exact h
  | stuck => exact h
theorem RestK.cons {F1 H1 : Hp} {r : Res D} {v : V} {x : D} {fp : List Addr} {Q : List V → Hp → Prop} (h : RestK K W σ F H (r.bind fun xs => .ok (.tup (x :: unT xs))) Q) (gr : Grow F H F1 H1) (rx : R K F1 H1 v x fp) (n : ∀ p ∈ fp, H p = none) :
    RestK K W σ F1 H1 r fun vs H2 => Q (v :: vs) H2 := by
  cases r with
  | ok d =>
    intro vs F' H' fp2 g2 rs n2
    refine h (v :: vs) F' H' (fp ++ fp2) (gr.trans g2) (.cons (g2.r rx) rs fun p hp hq => ?_) fun p hp => ?_
    · obtain ⟨_, k, o, vs, e, _⟩ := rx.there p hp
      have := n2 p hq
      rw [e] at this
      cases this
    · rcases List.mem_append.mp hp with hp | hp
      · exact n p hp
      · exact gr.fresh (n2 p hp)
  | exc c fs => exact fun C d F' H' e b q => h C d F' H' e (gr.trans b) q
  | stuck => exact h
/-! ### calls of defs -/
mutual
/-- all within is owned: nothing leans on what was frozen for the while -/
theorem R.unlend {F2 : Hp} : ∀ {v : V} {d : D} {fp : List Addr}, R K F H v d fp → d.fr = true → (∀ p ∈ fp, F2 p = none) → R K F2 H v d fp
  | _, _, _, .dead, _, _ => .dead
  | _, _, _, .non, _, _ => .non
  | _, _, _, .bl b, _, _ => .bl b
  | _, _, _, .int i, _, _ => .int i
  | _, _, _, .str x, _, _ => .str x
  | _, _, _, .scr ns h, e, _ => by unfold D.fr at e; cases e
  | _, _, _, .tup h hs, e, k => .tup h (Rs.unlend hs e k)
  | _, _, _, .ctup xs h hd, _, _ => .ctup xs h hd
  | _, _, _, .exv h, _, _ => .exv h
  | _, _, _, .frz h hs, e, _ => by unfold D.fr at e; cases e
  | _, _, _, .own (a := a) h hk n hs na, e, k => by
    unfold D.fr at e
    exact .own h hk (k a List.mem_cons_self) (Rs.unlend hs (and_t e).2 fun p hp => k p (List.mem_cons_of_mem _ hp)) na
theorem Rs.unlend {F2 : Hp} : ∀ {v : List V} {d : List D} {fp : List Addr}, Rs K F H v d fp → D.frs d = true → (∀ p ∈ fp, F2 p = none) → Rs K F2 H v d fp
  | _, _, _, .nil, _, _ => .nil
  | _, _, _, .cons h hs n, e, k => by
    unfold D.frs at e
    exact .cons (R.unlend h (and_t e).1 fun p hp => k p (List.mem_append_left _ hp)) (Rs.unlend hs (and_t e).2 fun p hp => k p (List.mem_append_right _ hp)) n
end
theorem rest_call {fn : List D → Res D} {vs : List V} {ds : List D} (s : Same F H) (r : RV K F H vs ds) (q : Rest K W σ F H (lend fn ds) view Q) : spF K fn vs H Q (WE W σ) := by
  unfold lend at q
  split at q
  · rename_i hn
    refine ⟨F, ds, s, r.rs hn, ?_⟩
    cases e : fn ds with
    | ok d =>
      rw [e] at q
      exact fun v F' H' fp g r2 n2 => q v F' H' fp g r2 fun _ => n2
    | exc c fs =>
      rw [e] at q
      exact fun C d F' H' e1 g e2 => q C d F' H' e1 g e2
    | stuck =>
      rw [e] at q
      exact q
  · refine ⟨H, D.frzs ds, Same.refl H, r.lent s, ?_⟩
    cases e : fn (D.frzs ds) with
    | ok d =>
      rw [e] at q
      simp only at q
      split at q
      · rename_i hf
        intro v F' H' fp g r2 n2
        have nf : ∀ p ∈ fp, F p = none := fun p hp => not_frozen s (n2 p hp)
        refine q v F H' fp ⟨Same.refl F, s.trans g.hh, g.hh, fun _ _ => rfl⟩ (r2.unlend hf nf) fun _ => n2
      · exact q.elim
    | exc c fs =>
      rw [e] at q
      intro C d F' H' e1 g e2
      exact q C d F H' e1 ⟨Same.refl F, s.trans g.hh, g.hh, fun _ _ => rfl⟩ e2
    | stuck =>
      rw [e] at q
      exact q
end
end PX

/-! PX, part u: zip of two or three lists, tuples, texts; enumerate of a list, a tuple, a text. -/
namespace PX
open PySem PySem.Spec PyProof.Rows L2

/-- what is drawn from -/
inductive Src where
  | lst (a : Addr) | tup (a : Addr) | str (z : Str)
def Src.v : Src → V
  | .lst a => .ref a
  | .tup a => .ref a
  | .str z => .str z
/-- the source stands there with these items -/
def Src.st (K : PySem.W.Frag) (H : Hp) : Src → List V → Prop
  | .lst a, xs => SqL K H a xs
  | .tup a, xs => SqT K H a xs
  | .str z, xs => xs = z.cps.toList.map fun c => .str ⟨#[c]⟩
/-- the iterator over it, ahead of the i-th item -/
def Src.ip (it : Addr) (i : Nat) (h : Heap) : Src → Prop
  | .lst a => h.IsListIter it a i
  | .tup a => h.IsTupleIter it a i
  | .str z => ∃ t, h.IsStrIter it (strIterType z) z t i
/-- it leans on none of these cells -/
def Src.ap (cs : List Addr) : Src → Prop
  | .lst a => a ∉ cs
  | .tup a => a ∉ cs
  | .str _ => True
def Src.fp (it : Addr) : Src → List Addr
  | .lst a => [it, a]
  | .tup a => [it, a]
  | .str _ => [it]
theorem Src.fp_mem {S : Src} {it : Addr} : it ∈ S.fp it := by cases S <;> simp [Src.fp]
theorem Src.fp_not {S : Src} {it c : Addr} {cs : List Addr} (h : S.ap cs) (hc : c ∈ cs) (n : c ≠ it) : c ∉ S.fp it := by
  cases S with
  | lst a => intro z; simp [Src.fp] at z; rcases z with z | z; exact n z; exact h (z ▸ hc)
  | tup a => intro z; simp [Src.fp] at z; rcases z with z | z; exact n z; exact h (z ▸ hc)
  | str z => intro z; simp [Src.fp] at z; exact n z
theorem Src.ip_at {S : Src} {it : Addr} {i : Nat} {h h' : Heap} (x : S.ip it i h) (k : ∀ o, h.get? it = some o → h'.get? it = some o) : S.ip it i h' := by
  cases S with
  | lst a => exact Heap.IsListIter.at x k
  | tup a => exact Heap.IsTupleIter.at x k
  | str z =>
    obtain ⟨t, o, ho, r⟩ := x
    exact ⟨t, o, k o ho, r⟩
theorem Src.ip_obj {S : Src} {it : Addr} {i : Nat} {h : Heap} (x : S.ip it i h) : ∃ o, h.get? it = some o ∧ ∀ v, o.data ≠ .cell v := by
  cases S with
  | lst a => obtain ⟨o, ho, _, hd⟩ := x; exact ⟨o, ho, fun v q => by rw [hd] at q; cases q⟩
  | tup a => obtain ⟨o, ho, _, hd⟩ := x; exact ⟨o, ho, fun v q => by rw [hd] at q; cases q⟩
  | str z => obtain ⟨t, o, ho, _, hd⟩ := x; exact ⟨o, ho, fun v q => by rw [hd] at q; cases q⟩
theorem vals_get' : ∀ {xs : List V} {us : List Value}, Vals xs us → ∀ {j : Nat} {u : Value}, us[j]? = some u → ∃ v, xs[j]? = some v ∧ RelV v u
  | _, _, .nil, j, u, e => by simp at e
  | _, _, .cons r rr, 0, u, e => by
    simp at e
    subst e
    exact ⟨_, rfl, r⟩
  | _, _, .cons r rr, j + 1, u, e => by
    obtain ⟨v, e1, q⟩ := vals_get' rr (j := j) (u := u) (by simpa using e)
    exact ⟨v, by simpa using e1, q⟩
/-- drawn from, as the machine does -/
theorem Src.draws {X : Cx} {pins : List (Addr × Obj)} {σ : L2.St} {H : Hp} {s : Shared} {S : Src} {xs : List V} {it : Addr} {i : Nat} (hc : X.calm = true) (I : Inv X pins σ H s) (h : S.st X.K H xs) (ap : S.ap [it]) (x : S.ip it i s.heap) :
    ∃ (Pp : Nat → Value → Prop) (St : Nat → Heap → Prop), Draws X.prog X.w X.A.in1 it (S.fp it) xs.length Pp St ∧ (∀ j u, Pp j u → ∃ v, xs[j]? = some v ∧ RelV v u) ∧ St i s.heap ∧ ∀ j h', St j h' → S.ip it j h' := by
  have hh : X.A.in1.handled = none := I.ok.hd hc
  cases S with
  | lst a =>
    obtain ⟨its, rv, p, _⟩ := I.list h
    have ne : a ≠ it := fun z => ap (by simp [z])
    have hl : its.toArray.size = xs.length := by simp [rv.length]
    refine ⟨_, _, hl ▸ Draws.list hh it a ne its.toArray, fun j u e => ?_, ⟨x, p.isList⟩, fun j h' q => q.1⟩
    obtain ⟨v, e1, r⟩ := vals_get' rv (by simpa using e)
    exact ⟨v, e1, r⟩
  | tup a =>
    obtain ⟨its, rv, p, _⟩ := I.tuple h
    have ne : a ≠ it := fun z => ap (by simp [z])
    have hl : its.toArray.size = xs.length := by simp [rv.length]
    refine ⟨_, _, hl ▸ Draws.tuple hh it a ne its.toArray, fun j u e => ?_, ⟨x, p⟩, fun j h' q => q.1⟩
    obtain ⟨v, e1, r⟩ := vals_get' rv (by simpa using e)
    exact ⟨v, e1, r⟩
  | str z =>
    obtain ⟨t, x⟩ := x
    have h : xs = z.cps.toList.map fun c => V.str ⟨#[c]⟩ := h
    have hl : z.cps.size = xs.length := by rw [h]; simp
    refine ⟨_, _, hl ▸ Draws.text hh it z t, fun j u e => ?_, x, fun j h' q => ⟨t, q⟩⟩
    obtain ⟨c, tt, e1, rfl⟩ := e
    refine ⟨.str ⟨#[c]⟩, ?_, ⟨_, rfl⟩⟩
    rw [h, List.getElem?_map, Array.getElem?_toList, e1]
    rfl
theorem Src.inj {X : Cx} {pins : List (Addr × Obj)} {σ : L2.St} {H : Hp} {s : Shared} {S : Src} {xs ys : List V} (I : Inv X pins σ H s) (h : S.st X.K H xs) (h' : S.st X.K H ys) : xs = ys := by
  cases S with
  | lst a => exact I.list_inj h h'
  | tup a => exact I.tuple_inj h h'
  | str z => exact Eq.trans h (Eq.symm h')
/-- the sources as they stand at each turn, the items in new pairs -/
def ItP (K : PySem.W.Frag) (S1 S2 : Src) : It :=
  ⟨fun i H => ∃ (xs ys : List V) (x y : V), S1.st K H xs ∧ S2.st K H ys ∧ xs[i]? = some x ∧ ys[i]? = some y,
    fun i H v H' => ∃ T x y, v = .ref T ∧ H T = none ∧ H' = upd H T (.tup [x, y]) ∧ (∀ xs, S1.st K H xs → xs[i]? = some x) ∧ ∀ ys, S2.st K H ys → ys[i]? = some y,
    fun i H => ∃ xs ys : List V, S1.st K H xs ∧ S2.st K H ys ∧ i = min xs.length ys.length⟩
/-- the cells of a zip -/
structure ZA (z TI TO i1 i2 : Addr) (S1 S2 : Src) : Prop where
  d1 : [z, TI, TO, i1, i2].Nodup
  a1 : S1.ap [z, TI, TO, i1, i2]
  a2 : S2.ap [z, TI, TO, i1, i2]
theorem Src.ap_sub {S : Src} {cs ds : List Addr} (h : S.ap cs) (k : ∀ d ∈ ds, d ∈ cs) : S.ap ds := by
  cases S with
  | lst a => exact fun z => h (k a z)
  | tup a => exact fun z => h (k a z)
  | str z => trivial
theorem ZA.sep {z TI TO i1 i2 : Addr} {S1 S2 : Src} (D : ZA z TI TO i1 i2 S1 S2) : ZipSep2 z TI TO i1 i2 (S1.fp i1) (S2.fp i2) := by
  have d := D.d1
  simp only [List.nodup_cons, List.mem_cons, List.not_mem_nil, or_false, not_or, List.nodup_nil, not_false_eq_true, and_true] at d
  obtain ⟨⟨d1, d2, d3, d4⟩, ⟨d5, d6, d7⟩, ⟨d8, d9⟩, d10⟩ := d
  exact ⟨fun e => d1 e.symm, fun e => d2 e.symm, d5, d6, S1.fp_mem, Src.fp_not D.a1 (by simp) d3, Src.fp_not D.a1 (by simp) d8, d7, S2.fp_mem, Src.fp_not D.a2 (by simp) d4, Src.fp_not D.a2 (by simp) d9,
    Src.fp_not D.a2 (by simp) d10, Src.fp_not D.a1 (by simp) fun e => d10 e.symm⟩
theorem turn_P {P : Program} {w : World} {K : PySem.W.Frag} {elts : List Expr} {kk : Nat} {tpos : Pos} {z TI TO i1 i2 : Addr} {S1 S2 : Src} (D : ZA z TI TO i1 i2 S1 S2) :
    Turn P w K (.Tuple elts kk tpos) (ItP K S1 S2) [z, TI, TO, i1, i2] z (fun i h => IsZip h z TI TO .none ∧ IsTupOf2 h TI (.ref i1) (.ref i2) ∧ (∃ x y, IsTupOf2 h TO x y) ∧ S1.ip i1 i h ∧ S2.ip i2 i h) where
  mem := by simp
  obj := fun i h st c hc => by
    obtain ⟨hz, hTI, ⟨x, y, hTO⟩, h1, h2⟩ := st
    have e' : c = z ∨ c = TI ∨ c = TO ∨ c = i1 ∨ c = i2 := by simpa using hc
    rcases e' with q | q | q | q | q
    · rw [q]; exact ⟨_, hz, fun v q => nomatch q⟩
    · rw [q]; exact ⟨_, hTI, fun v q => nomatch q⟩
    · rw [q]; exact ⟨_, hTO, fun v q => nomatch q⟩
    · rw [q]; exact Src.ip_obj h1
    · rw [q]; exact Src.ip_obj h2
  keep := fun i h h' st k => by
    obtain ⟨hz, hTI, ⟨x, y, hTO⟩, h1, h2⟩ := st
    exact ⟨k z (by simp) _ hz, k TI (by simp) _ hTI, ⟨x, y, k TO (by simp) _ hTO⟩, Src.ip_at h1 fun o q => k i1 (by simp) o q, Src.ip_at h2 fun o q => k i2 (by simp) o q⟩
  item := by
    intro X hP hw hK hc i pins s σ H E I hf st hg
    subst hP hw hK
    obtain ⟨hz, hTI, ⟨x0, y0, hTO⟩, h1, h2⟩ := st
    obtain ⟨xs, ys, x, y, hqx, hqy, hx, hy⟩ := hg
    obtain ⟨P1, St1, D1, k1, s1, b1⟩ := Src.draws hc I hqx (Src.ap_sub D.a1 (by simp)) h1
    obtain ⟨P2, St2, D2, k2, s2, b2⟩ := Src.draws hc I hqy (Src.ap_sub D.a2 (by simp)) h2
    have hzl : z < s.heap.objs.size := Heap.lt_size hz
    refine wpAny_pyNext_zipD2_item D.sep D1 D2 hz hTI hTO s1 s2 (List.getElem?_eq_some_iff.mp hx).1 (List.getElem?_eq_some_iff.mp hy).1 fun u1 u2 h' tk p1 p2 z' TO' h1' h2' hT hsz hk => ?_
    obtain ⟨v1, e1, r1⟩ := k1 _ _ p1
    obtain ⟨v2, e2, r2⟩ := k2 _ _ p2
    rw [hx] at e1
    rw [hy] at e2
    cases e1
    cases e2
    refine ⟨_, rfl, wpAny_letOwnedTupleGo_zip (s := { s with heap := h', toks := tk }) z' fun h'' z'' sb => ?_⟩
    have hT2 : h''.get? s.heap.objs.size = some { cls := .type "tuple", data := .seq #[u1, u2] } := (sb.2 _ (Nat.ne_of_gt hzl)).trans hT
    have new : ObjOk X.prog X.w (upd H s.heap.objs.size (.tup [x, y])) h'' s.heap.objs.size (.tup [x, y]) :=
      ⟨by show 2 ≤ sizeLine; decide, [u1, u2], .cons r1 (.cons r2 .nil), ⟨_, hT2, rfl, _, rfl⟩⟩
    have I1 : Inv X pins σ (upd H s.heap.objs.size (.tup [x, y])) { s with heap := h'', toks := tk } :=
      I.turnedNew (t' := tk) (ch := [z, TI, TO, i1, i2]) (fun c o hb q => (sb.2 c (fun q' => hb (by simp [q']))).trans (hk c o (fun q' => hb (by simp [q'])) (fun q' => hb (by simp [q'])) (fun q' => hb (by simp [q'])) (fun q' => hb (by simp [q'])) q)) hf (Nat.le_refl _) new
    have S := D.sep
    refine ⟨.ref s.heap.objs.size, _, I1, rfl, ⟨_, x, y, rfl, I.hok.fresh (Nat.le_refl _), rfl, fun l hl => by rw [Src.inj I hl hqx]; exact hx, fun l hl => by rw [Src.inj I hl hqy]; exact hy⟩, ⟨z'', ?_, ⟨u1, u2, ?_⟩, ?_, ?_⟩, fun c hcm => ?_⟩
    · exact (sb.2 _ S.TIz).trans (hk _ _ S.TIz S.TITO S.TIi1 S.TIi2 hTI)
    · exact (sb.2 _ S.TOz).trans TO'
    · exact Src.ip_at (b1 _ _ h1') fun o q => (sb.2 _ (Ne.symm S.zi1)).trans q
    · exact Src.ip_at (b2 _ _ h2') fun o q => (sb.2 _ (Ne.symm S.zi2)).trans q
    · have hlt : c < s.heap.objs.size := by
        have e' : c = z ∨ c = TI ∨ c = TO ∨ c = i1 ∨ c = i2 := by simpa using hcm
        rcases e' with q | q | q | q | q
        · rw [q]; exact hzl
        · rw [q]; exact Heap.lt_size hTI
        · rw [q]; exact Heap.lt_size hTO
        · rw [q]; obtain ⟨_, e1, _⟩ := Src.ip_obj h1; exact Heap.lt_size e1
        · rw [q]; obtain ⟨_, e2, _⟩ := Src.ip_obj h2; exact Heap.lt_size e2
      rw [upd_ne (Nat.ne_of_lt hlt)]
      exact (hf c hcm).1
  done := by
    intro X hP hw hK hc i pins s σ H E I hf st hg
    subst hP hw hK
    obtain ⟨hz, hTI, ⟨x0, y0, hTO⟩, h1, h2⟩ := st
    obtain ⟨xs, ys, hqx, hqy, hend⟩ := hg
    obtain ⟨P1, St1, D1, k1, s1, b1⟩ := Src.draws hc I hqx (Src.ap_sub D.a1 (by simp)) h1
    obtain ⟨P2, St2, D2, k2, s2, b2⟩ := Src.draws hc I hqy (Src.ap_sub D.a2 (by simp)) h2
    refine wpAny_pyNext_zipD2_end D.sep D1 D2 hz hTI hTO s1 s2 (by omega) (by omega) (by omega) fun h' tk hk => ⟨rfl, I.turnedL (t' := tk) (ch := [z, TI, TO, i1, i2]) (fun c o hb q =>
      hk c o (fun q' => hb (by simp [q'])) (fun q' => hb (by simp [q'])) (fun q' => hb (by simp [q'])) (fun q' => hb (by simp [q'])) q) hf⟩
  self := fun A i s Q E st h => wpAny_pyIter_zip st.1 h
def ItP3 (K : PySem.W.Frag) (S1 S2 S3 : Src) : It :=
  ⟨fun i H => ∃ (xs ys zs : List V) (x y z : V), S1.st K H xs ∧ S2.st K H ys ∧ S3.st K H zs ∧ xs[i]? = some x ∧ ys[i]? = some y ∧ zs[i]? = some z,
    fun i H v H' => ∃ T x y z, v = .ref T ∧ H T = none ∧ H' = upd H T (.tup [x, y, z]) ∧ (∀ xs, S1.st K H xs → xs[i]? = some x) ∧ (∀ ys, S2.st K H ys → ys[i]? = some y) ∧ ∀ ys, S3.st K H ys → ys[i]? = some z,
    fun i H => ∃ xs ys zs : List V, S1.st K H xs ∧ S2.st K H ys ∧ S3.st K H zs ∧ i = min (min xs.length ys.length) zs.length⟩
structure ZA3 (z TI TO i1 i2 i3 : Addr) (S1 S2 S3 : Src) : Prop where
  d1 : [z, TI, TO, i1, i2, i3].Nodup
  a1 : S1.ap [z, TI, TO, i1, i2, i3]
  a2 : S2.ap [z, TI, TO, i1, i2, i3]
  a3 : S3.ap [z, TI, TO, i1, i2, i3]
theorem ZA3.sep {z TI TO i1 i2 i3 : Addr} {S1 S2 S3 : Src} (D : ZA3 z TI TO i1 i2 i3 S1 S2 S3) : ZipSep3 z TI TO i1 i2 i3 (S1.fp i1) (S2.fp i2) (S3.fp i3) := by
  have d := D.d1
  simp only [List.nodup_cons, List.mem_cons, List.not_mem_nil, or_false, not_or, List.nodup_nil, not_false_eq_true, and_true] at d
  obtain ⟨⟨d1, d2, d3, d4, d4'⟩, ⟨d5, d6, d7, d7'⟩, ⟨d8, d9, d9'⟩, ⟨d10, d11⟩, d12⟩ := d
  exact ⟨fun e => d1 e.symm, fun e => d2 e.symm, d5, d6, S1.fp_mem, Src.fp_not D.a1 (by simp) d3, Src.fp_not D.a1 (by simp) d8, d7, S2.fp_mem, Src.fp_not D.a2 (by simp) d4, Src.fp_not D.a2 (by simp) d9,
    d7', S3.fp_mem, Src.fp_not D.a3 (by simp) d4', Src.fp_not D.a3 (by simp) d9',
    Src.fp_not D.a2 (by simp) d10, Src.fp_not D.a3 (by simp) d11, Src.fp_not D.a1 (by simp) fun e => d10 e.symm, Src.fp_not D.a3 (by simp) d12, Src.fp_not D.a1 (by simp) fun e => d11 e.symm, Src.fp_not D.a2 (by simp) fun e => d12 e.symm⟩
theorem turn_P3 {P : Program} {w : World} {K : PySem.W.Frag} {elts : List Expr} {kk : Nat} {tpos : Pos} {z TI TO i1 i2 i3 : Addr} {S1 S2 S3 : Src} (D : ZA3 z TI TO i1 i2 i3 S1 S2 S3) :
    Turn P w K (.Tuple elts kk tpos) (ItP3 K S1 S2 S3) [z, TI, TO, i1, i2, i3] z (fun i h => IsZip h z TI TO .none ∧ IsTupOf3 h TI (.ref i1) (.ref i2) (.ref i3) ∧ (∃ x y v, IsTupOf3 h TO x y v) ∧ S1.ip i1 i h ∧ S2.ip i2 i h ∧ S3.ip i3 i h) where
  mem := by simp
  obj := fun i h st c hc => by
    obtain ⟨hz, hTI, ⟨x, y, v, hTO⟩, h1, h2, h3⟩ := st
    have e' : c = z ∨ c = TI ∨ c = TO ∨ c = i1 ∨ c = i2 ∨ c = i3 := by simpa using hc
    rcases e' with q | q | q | q | q | q
    · rw [q]; exact ⟨_, hz, fun v q => nomatch q⟩
    · rw [q]; exact ⟨_, hTI, fun v q => nomatch q⟩
    · rw [q]; exact ⟨_, hTO, fun v q => nomatch q⟩
    · rw [q]; exact Src.ip_obj h1
    · rw [q]; exact Src.ip_obj h2
    · rw [q]; exact Src.ip_obj h3
  keep := fun i h h' st k => by
    obtain ⟨hz, hTI, ⟨x, y, v, hTO⟩, h1, h2, h3⟩ := st
    exact ⟨k z (by simp) _ hz, k TI (by simp) _ hTI, ⟨x, y, v, k TO (by simp) _ hTO⟩, Src.ip_at h1 fun o q => k i1 (by simp) o q, Src.ip_at h2 fun o q => k i2 (by simp) o q, Src.ip_at h3 fun o q => k i3 (by simp) o q⟩
  item := by
    intro X hP hw hK hc i pins s σ H E I hf st hg
    subst hP hw hK
    obtain ⟨hz, hTI, ⟨x0, y0, v0, hTO⟩, h1, h2, h3⟩ := st
    obtain ⟨xs, ys, zs, x, y, v, hqx, hqy, hqz, hx, hy, hv⟩ := hg
    obtain ⟨P1, St1, D1, k1, s1, b1⟩ := Src.draws hc I hqx (Src.ap_sub D.a1 (by simp)) h1
    obtain ⟨P2, St2, D2, k2, s2, b2⟩ := Src.draws hc I hqy (Src.ap_sub D.a2 (by simp)) h2
    obtain ⟨P3, St3, D3, k3, s3, b3⟩ := Src.draws hc I hqz (Src.ap_sub D.a3 (by simp)) h3
    have hzl : z < s.heap.objs.size := Heap.lt_size hz
    refine wpAny_pyNext_zipD3_item D.sep D1 D2 D3 hz hTI hTO s1 s2 s3 (List.getElem?_eq_some_iff.mp hx).1 (List.getElem?_eq_some_iff.mp hy).1 (List.getElem?_eq_some_iff.mp hv).1 fun u1 u2 u3 h' tk p1 p2 p3 z' TO' h1' h2' h3' hT hsz hk => ?_
    obtain ⟨v1, e1, r1⟩ := k1 _ _ p1
    obtain ⟨v2, e2, r2⟩ := k2 _ _ p2
    obtain ⟨v3, e3, r3⟩ := k3 _ _ p3
    rw [hx] at e1
    rw [hy] at e2
    rw [hv] at e3
    cases e1
    cases e2
    cases e3
    refine ⟨_, rfl, wpAny_letOwnedTupleGo_zip (s := { s with heap := h', toks := tk }) z' fun h'' z'' sb => ?_⟩
    have hT2 : h''.get? s.heap.objs.size = some { cls := .type "tuple", data := .seq #[u1, u2, u3] } := (sb.2 _ (Nat.ne_of_gt hzl)).trans hT
    have new : ObjOk X.prog X.w (upd H s.heap.objs.size (.tup [x, y, v])) h'' s.heap.objs.size (.tup [x, y, v]) :=
      ⟨by show 3 ≤ sizeLine; decide, [u1, u2, u3], .cons r1 (.cons r2 (.cons r3 .nil)), ⟨_, hT2, rfl, _, rfl⟩⟩
    have I1 : Inv X pins σ (upd H s.heap.objs.size (.tup [x, y, v])) { s with heap := h'', toks := tk } :=
      I.turnedNew (t' := tk) (ch := [z, TI, TO, i1, i2, i3]) (fun c o hb q => (sb.2 c (fun q' => hb (by simp [q']))).trans (hk c o (fun q' => hb (by simp [q'])) (fun q' => hb (by simp [q'])) (fun q' => hb (by simp [q'])) (fun q' => hb (by simp [q'])) (fun q' => hb (by simp [q'])) q)) hf (Nat.le_refl _) new
    have S := D.sep
    refine ⟨.ref s.heap.objs.size, _, I1, rfl, ⟨_, x, y, v, rfl, I.hok.fresh (Nat.le_refl _), rfl, fun l hl => by rw [Src.inj I hl hqx]; exact hx, fun l hl => by rw [Src.inj I hl hqy]; exact hy, fun l hl => by rw [Src.inj I hl hqz]; exact hv⟩, ⟨z'', ?_, ⟨u1, u2, u3, ?_⟩, ?_, ?_, ?_⟩, fun c hcm => ?_⟩
    · exact (sb.2 _ S.TIz).trans (hk _ _ S.TIz S.TITO S.TIi1 S.TIi2 S.TIi3 hTI)
    · exact (sb.2 _ S.TOz).trans TO'
    · exact Src.ip_at (b1 _ _ h1') fun o q => (sb.2 _ (Ne.symm S.zi1)).trans q
    · exact Src.ip_at (b2 _ _ h2') fun o q => (sb.2 _ (Ne.symm S.zi2)).trans q
    · exact Src.ip_at (b3 _ _ h3') fun o q => (sb.2 _ (Ne.symm S.zi3)).trans q
    · have hlt : c < s.heap.objs.size := by
        have e' : c = z ∨ c = TI ∨ c = TO ∨ c = i1 ∨ c = i2 ∨ c = i3 := by simpa using hcm
        rcases e' with q | q | q | q | q | q
        · rw [q]; exact hzl
        · rw [q]; exact Heap.lt_size hTI
        · rw [q]; exact Heap.lt_size hTO
        · rw [q]; obtain ⟨_, e1, _⟩ := Src.ip_obj h1; exact Heap.lt_size e1
        · rw [q]; obtain ⟨_, e2, _⟩ := Src.ip_obj h2; exact Heap.lt_size e2
        · rw [q]; obtain ⟨_, e3, _⟩ := Src.ip_obj h3; exact Heap.lt_size e3
      rw [upd_ne (Nat.ne_of_lt hlt)]
      exact (hf c hcm).1
  done := by
    intro X hP hw hK hc i pins s σ H E I hf st hg
    subst hP hw hK
    obtain ⟨hz, hTI, ⟨x0, y0, v0, hTO⟩, h1, h2, h3⟩ := st
    obtain ⟨xs, ys, zs, hqx, hqy, hqz, hend⟩ := hg
    obtain ⟨P1, St1, D1, k1, s1, b1⟩ := Src.draws hc I hqx (Src.ap_sub D.a1 (by simp)) h1
    obtain ⟨P2, St2, D2, k2, s2, b2⟩ := Src.draws hc I hqy (Src.ap_sub D.a2 (by simp)) h2
    obtain ⟨P3, St3, D3, k3, s3, b3⟩ := Src.draws hc I hqz (Src.ap_sub D.a3 (by simp)) h3
    refine wpAny_pyNext_zipD3_end D.sep D1 D2 D3 hz hTI hTO s1 s2 s3 (by omega) (by omega) (by omega) (by omega) fun h' tk hk => ⟨rfl, I.turnedL (t' := tk) (ch := [z, TI, TO, i1, i2, i3]) (fun c o hb q =>
      hk c o (fun q' => hb (by simp [q'])) (fun q' => hb (by simp [q'])) (fun q' => hb (by simp [q'])) (fun q' => hb (by simp [q'])) (fun q' => hb (by simp [q'])) q) hf⟩
  self := fun A i s Q E st h => wpAny_pyIter_zip st.1 h
end PX

/-! PX, part v: zip and enumerate begin. -/
namespace PX
open PySem PySem.Spec PyProof.Rows L2

section
open PySem.AutoSeq1 (wpAny_loadPart')
theorem meets_enumerate_newT (l : Addr) (items : Array Value) (n : Nat) (dct : Option Addr) (sl : Array (Option Value)) :
    Meets (Builtin.«enumerate.__new__» ⟨[.type "enumerate", .ref l], []⟩) (fun _ R s => s.heap.get? l = some { cls := .type "tuple", dict := dct, data := .seq items n, slots := sl } ∧
      R (.ok (.ret (.ref (s.heap.push { cls := .type "tuple_iterator", data := .fields #[.ref l, .int 0 0] }).objs.size)))
        { s with heap := (s.heap.push { cls := .type "tuple_iterator", data := .fields #[.ref l, .int 0 0] }).push { cls := .type "enumerate", data := .fields #[.none, .bool false, .ref s.heap.objs.size, rawInt 0, .none, .none] } }) :=
  .of_wp fun prog w A R s h => by
    obtain ⟨hp, g, d, tk, os⟩ := s; obtain ⟨hl, h⟩ := h
    have hsub := sub_enumerate
    have hL : Heap.IsTuple (Shared.heap ⟨hp, g, d, tk, os⟩) l items := ⟨_, hl, rfl, n, rfl⟩
    wp_walk using wpAny_loadPart' hl
    refine wpAny_stack_any fun st => wpAny_pure ?_
    split
    · rename_i c _ _ _ _ _
      cases (c == Value.type "enumerate")
      · wp_walk using wpAny_loadPart' hl, wpAny_pyIter_tuple hL
        exact ⟨_, rfl, h⟩
      · wp_walk using wpAny_loadPart' hl, wpAny_pyIter_tuple hL
        exact ⟨_, rfl, h⟩
    · wp_walk using wpAny_loadPart' hl, wpAny_pyIter_tuple hL
      exact ⟨_, rfl, h⟩
theorem call_enumerate_tup {prog : Program} {w : World} {A : Around} {E : Value → Shared → Prop} {s : Shared} {l : Addr} {items : Array Value} {Q : Value → Shared → Prop} (hL : s.heap.IsTuple l items)
    (h : ∀ h', IsEnum h' (s.heap.objs.size + 1) s.heap.objs.size 0 .none → h'.IsTupleIter s.heap.objs.size l 0 → h'.objs.size = s.heap.objs.size + 2 →
      (∀ b o, s.heap.get? b = some o → h'.get? b = some o) → Q (.ref (s.heap.objs.size + 1)) { s with heap := h' }) :
    wpAny (model prog w) A (call (.type "enumerate") [.ref l]) Q E s := by
  obtain ⟨⟨c, dct, dt, sl⟩, hl, hc, n, hd⟩ := hL
  replace hc : c = .type "tuple" := hc
  replace hd : dt = .seq items n := hd
  subst hc hd
  refine callType_new F.called_enumerate (by decide) (F.typeCall_enumerate_1 _) (F.newCall_enumerate_1 _) (fun obj => F.args_object_init_2 obj _) F.entry_enumerate_new
    (meets_enumerate_newT l items n dct sl) ⟨hl, ?_⟩
  have hz : (s.heap.push { cls := .type "tuple_iterator", data := .fields #[.ref l, .int 0 0] }).objs.size = s.heap.objs.size + 1 := Heap.size_push ..
  show _ ∧ _
  rw [hz]
  have he : IsEnum ((s.heap.push { cls := .type "tuple_iterator", data := .fields #[.ref l, .int 0 0] }).push
      { cls := .type "enumerate", data := .fields #[.none, .bool false, .ref s.heap.objs.size, rawInt 0, .none, .none] }) (s.heap.objs.size + 1) s.heap.objs.size 0 .none := by
    have := Heap.get?_push_size (s.heap.push { cls := .type "tuple_iterator", data := .fields #[.ref l, .int 0 0] })
      (o := { cls := .type "enumerate", data := .fields #[.none, .bool false, .ref s.heap.objs.size, rawInt 0, .none, .none] }) rfl
    rw [hz] at this; exact this
  refine ⟨⟨_, he, rfl⟩, h _ he ⟨_, Heap.get?_push_of_some _ (Heap.get?_push_size _ rfl), rfl, rfl⟩ (by rw [Heap.size_push, hz]) fun b o x => Heap.get?_push_of_some _ (Heap.get?_push_of_some _ x)⟩
end
/-- the source as it stands at each turn, each item in a new pair with its number -/
def ItE (K : PySem.W.Frag) (S : Src) : It :=
  ⟨fun i H => ∃ (xs : List V) (x : V), S.st K H xs ∧ xs[i]? = some x, fun i H v H' => ∃ T x, v = .ref T ∧ H T = none ∧ H' = upd H T (.tup [.int (i : Nat), x]) ∧ ∀ xs, S.st K H xs → xs[i]? = some x, fun i H => ∃ xs : List V, S.st K H xs ∧ xs.length = i⟩
theorem turn_E {P : Program} {w : World} {K : PySem.W.Frag} {elts : List Expr} {kk : Nat} {tpos : Pos} {S : Src} {e it : Addr} (hne : e ≠ it) (ap : S.ap [e, it]) :
    Turn P w K (.Tuple elts kk tpos) (ItE K S) [e, it] e (fun i h => (∃ old, IsEnum h e it ((i : Nat) : Int) old) ∧ S.ip it i h) where
  mem := by simp
  obj := fun i h st b hb => by
    obtain ⟨⟨old, he⟩, hi⟩ := st
    have e' : b = e ∨ b = it := by simpa using hb
    rcases e' with z | z
    · rw [z]; exact ⟨_, he, fun v q => nomatch q⟩
    · rw [z]; exact Src.ip_obj hi
  keep := fun i h h' st k => let ⟨⟨old, he⟩, hi⟩ := st; ⟨⟨old, k e (by simp) _ he⟩, Src.ip_at hi fun o q => k it (by simp) o q⟩
  item := by
    intro X hP hw hK hc i pins s σ H E I hf st hg
    subst hP hw hK
    obtain ⟨⟨old, he⟩, hit⟩ := st
    obtain ⟨xs, x, hq, hx⟩ := hg
    obtain ⟨P1, St1, D1, k1, s1, b1⟩ := Src.draws hc I hq (Src.ap_sub ap (by simp)) hit
    have hel : e < s.heap.objs.size := Heap.lt_size he
    have hil : it < s.heap.objs.size := by obtain ⟨_, q, _⟩ := Src.ip_obj hit; exact Heap.lt_size q
    refine wpAny_pyNext_enum_itemD D1 he s1 (List.getElem?_eq_some_iff.mp hx).1 hne (Src.fp_not ap (by simp) hne) fun u h' tk p1 ho hit' hT hsz hk => ?_
    obtain ⟨v1, e1, ru⟩ := k1 _ _ p1
    rw [hx] at e1
    cases e1
    refine ⟨_, rfl, wpAny_letOwnedTupleGo_enum (s := { s with heap := h', toks := tk + 1 }) ho fun h'' he' sb => ?_⟩
    have hT2 : h''.get? s.heap.objs.size = some { cls := .type "tuple", data := .seq #[.int i tk, u] } := (sb.2 _ (Nat.ne_of_gt hel)).trans hT
    have new : ObjOk X.prog X.w (upd H s.heap.objs.size (.tup [.int (i : Nat), x])) h'' s.heap.objs.size (.tup [.int (i : Nat), x]) :=
      ⟨by show 2 ≤ sizeLine; decide, [.int i tk, u], .cons ⟨_, rfl⟩ (.cons ru .nil), ⟨_, hT2, rfl, _, rfl⟩⟩
    have I1 : Inv X pins σ (upd H s.heap.objs.size (.tup [.int (i : Nat), x])) { s with heap := h'', toks := tk + 1 } :=
      I.turnedNew (ch := [e, it]) (fun b ob hb q => (sb.2 b (fun z => hb (by simp [z]))).trans (hk b ob (fun z => hb (by simp [z])) (fun z => hb (by simp [z])) q)) hf (Nat.le_refl _) new
    refine ⟨.ref s.heap.objs.size, _, I1, rfl, ⟨_, x, rfl, I.hok.fresh (Nat.le_refl _), rfl, fun ys hy => by rw [Src.inj I hy hq]; exact hx⟩, ⟨⟨u, ?_⟩, Src.ip_at (b1 _ _ hit') fun o q => (sb.2 it (Ne.symm hne)).trans q⟩, fun b hb => ?_⟩
    · have e1 : ((i + 1 : Nat) : Int) = (i : Int) + 1 := by omega
      rw [e1]; exact he'
    · have hb' : b < s.heap.objs.size := by
        have e' : b = e ∨ b = it := by simpa using hb
        rcases e' with z | z
        · rw [z]; exact hel
        · rw [z]; exact hil
      rw [upd_ne (Nat.ne_of_lt hb')]
      exact (hf b hb).1
  done := by
    intro X hP hw hK hc i pins s σ H E I hf st hg
    subst hP hw hK
    obtain ⟨⟨old, he⟩, hit⟩ := st
    obtain ⟨xs, hq, hx⟩ := hg
    obtain ⟨P1, St1, D1, k1, s1, b1⟩ := Src.draws hc I hq (Src.ap_sub ap (by simp)) hit
    subst hx
    obtain ⟨f0, f1, f2, f3, f4, f5⟩ := hf it (by simp)
    exact wpAny_pyNext_enum_endD D1 he s1 fun h' eb => ⟨rfl, I.turned (t' := s.toks) (fun b o hb q => eb b o hb q) f0 f1 f3 f4 f5⟩
  self := fun A i s Q E st h => let ⟨⟨_, he⟩, _⟩ := st; wpAny_pyIter_enum he h
/-- as the source begins -/
theorem Src.begins {X : Cx} {pins : List (Addr × Obj)} {σ : L2.St} {H : Hp} {s : Shared} {S : Src} {xs : List V} {u : Value} (I : Inv X pins σ H s) (h : S.st X.K H xs) (r : RelV S.v u) :
    ∃ (o : Obj) (Hs : Heap → Prop), Begins u o Hs ∧ Hs s.heap ∧ (∀ (h' : Heap) (it : Addr), h'.get? it = some o → S.ip it 0 h') ∧ S.ap (List.range' s.heap.objs.size 8) := by
  have lt : ∀ a, a < s.heap.objs.size → a ∉ List.range' s.heap.objs.size 8 := fun a ha z => by
    rw [List.mem_range'] at z
    obtain ⟨j, _, rfl⟩ := z
    omega
  cases S with
  | lst a =>
    obtain ⟨its, rv, p, _⟩ := I.list h
    cases r
    exact ⟨_, _, begins_list a its.toArray, p.isList, fun h' it e => ⟨_, e, rfl, rfl⟩, lt a p.lt⟩
  | tup a =>
    obtain ⟨its, rv, p, _⟩ := I.tuple h
    cases r
    have p2 : s.heap.IsTuple a its.toArray := p
    exact ⟨_, _, begins_tuple a its.toArray, p2, fun h' it e => ⟨_, e, rfl, rfl⟩, lt a (by obtain ⟨o, ho, _⟩ := p; exact Heap.lt_size ho)⟩
  | str z =>
    obtain ⟨t, rfl⟩ := r
    exact ⟨_, _, begins_text z t, trivial, fun h' it e => ⟨t, _, e, rfl, rfl⟩, trivial⟩
def iZipS (K : PySem.W.Frag) (ta : TA) : TI := fun σ H R => ta σ H fun vs H1 => ∃ S1 S2 xs ys, vs = [S1.v, S2.v] ∧ S1.st K H1 xs ∧ S2.st K H1 ys ∧ R (ItP K S1 S2) H1
def iZipS3 (K : PySem.W.Frag) (ta : TA) : TI := fun σ H R => ta σ H fun vs H1 => ∃ S1 S2 S3 xs ys zs, vs = [S1.v, S2.v, S3.v] ∧ S1.st K H1 xs ∧ S2.st K H1 ys ∧ S3.st K H1 zs ∧ R (ItP3 K S1 S2 S3) H1
def iEnumS (K : PySem.W.Frag) (ta : TA) : TI := fun σ H R => ta σ H fun vs H1 => ∃ S xs, vs = [S.v] ∧ S.st K H1 xs ∧ R (ItE K S) H1
theorem pi_zipS {X : Cx} {e e2 : Expr} {ta : TA} {p pos tpos : Pos} {elts : List Expr} {kk : Nat} (hg : Gl X "zip") (hm : X.mg "zip" = none) (ha : PA X [e, e2] ta)
    (hs : starEach [e, e2] X.env = (false, eval e X.env) :: starEach [e2] X.env := by rfl) (hpl : (backTo pos (starEach [e2] X.env)).any (·.1) = false := by rfl) :
    PI X (.Tuple elts kk tpos) (.Call (.Name "zip" p) [e, e2] [] pos) (iZipS X.K ta) := by
  refine ⟨fun pins s σ H R I h => ?_⟩
  refine Call_ (ld_blt I hg hm PyProof.Rows.boot_zip (PyProof.Rows.callWith_type1 (thn (ha.run pos pins s σ H _ I h) fun us s1 ⟨vs, H1, I1, r1, q1⟩ => ?_) hs hpl))
  obtain ⟨S1, S2, xs, ys, ex, hx, hy, q⟩ := q1
  subst ex
  cases r1 with
  | cons r rr =>
    cases rr with
    | cons r' rr =>
      cases rr
      obtain ⟨o1, K1, B1, k1, p1, a1⟩ := Src.begins I1 hx r
      obtain ⟨o2, K2, B2, k2, p2, a2⟩ := Src.begins I1 hy r'
      refine zip_begins2 B1 B2 k1 k2 fun h' hz hTI hTO h1 h2 hsz hk => wpAny_pyIter_zip hz ?_
      have I2 : Inv X pins σ H1 { s1 with heap := h' } := I1.kept (t' := s1.toks) hk
      have sub : ∀ d ∈ [s1.heap.objs.size + 4, s1.heap.objs.size + 2, s1.heap.objs.size + 3, s1.heap.objs.size, s1.heap.objs.size + 1], d ∈ List.range' s1.heap.objs.size 8 := fun d hd => by
        rw [List.mem_range']
        simp at hd
        rcases hd with z | z | z | z | z
        · exact ⟨4, by omega, by omega⟩
        · exact ⟨2, by omega, by omega⟩
        · exact ⟨3, by omega, by omega⟩
        · exact ⟨0, by omega, by omega⟩
        · exact ⟨1, by omega, by omega⟩
      have D : ZA (s1.heap.objs.size + 4) (s1.heap.objs.size + 2) (s1.heap.objs.size + 3) s1.heap.objs.size (s1.heap.objs.size + 1) S1 S2 := ⟨by simp, Src.ap_sub a1 sub, Src.ap_sub a2 sub⟩
      refine ⟨s1.heap.objs.size + 4, [s1.heap.objs.size + 4, s1.heap.objs.size + 2, s1.heap.objs.size + 3, s1.heap.objs.size, s1.heap.objs.size + 1], _, _, H1, rfl, I2, turn_P D, ⟨hz, hTI, ⟨_, _, hTO⟩, p1 _ _ h1, p2 _ _ h2⟩, fun c hc => ?_, q⟩
      have hle : s1.heap.objs.size ≤ c := by
        have := sub c hc
        rw [List.mem_range'] at this
        obtain ⟨j, _, rfl⟩ := this
        omega
      exact I1.fpOk hle (I1.hok.fresh hle)
theorem pi_zipS3 {X : Cx} {e e2 e3 : Expr} {ta : TA} {p pos tpos : Pos} {elts : List Expr} {kk : Nat} (hg : Gl X "zip") (hm : X.mg "zip" = none) (ha : PA X [e, e2, e3] ta)
    (hs : starEach [e, e2, e3] X.env = (false, eval e X.env) :: starEach [e2, e3] X.env := by rfl) (hpl : (backTo pos (starEach [e2, e3] X.env)).any (·.1) = false := by rfl) :
    PI X (.Tuple elts kk tpos) (.Call (.Name "zip" p) [e, e2, e3] [] pos) (iZipS3 X.K ta) := by
  refine ⟨fun pins s σ H R I h => ?_⟩
  refine Call_ (ld_blt I hg hm PyProof.Rows.boot_zip (PyProof.Rows.callWith_type1 (thn (ha.run pos pins s σ H _ I h) fun us s1 ⟨vs, H1, I1, r1, q1⟩ => ?_) hs hpl))
  obtain ⟨S1, S2, S3, xs, ys, zs, ex, hx, hy, hv, q⟩ := q1
  subst ex
  cases r1 with
  | cons r rr =>
    cases rr with
    | cons r' rr =>
      cases rr with
      | cons r'' rr =>
        cases rr
        obtain ⟨o1, K1, B1, k1, p1, a1⟩ := Src.begins I1 hx r
        obtain ⟨o2, K2, B2, k2, p2, a2⟩ := Src.begins I1 hy r'
        obtain ⟨o3, K3, B3, k3, p3, a3⟩ := Src.begins I1 hv r''
        refine zip_begins3 B1 B2 B3 k1 k2 k3 fun h' hz hTI hTO h1 h2 h3 hsz hk => wpAny_pyIter_zip hz ?_
        have I2 : Inv X pins σ H1 { s1 with heap := h' } := I1.kept (t' := s1.toks) hk
        have sub : ∀ d ∈ [s1.heap.objs.size + 5, s1.heap.objs.size + 3, s1.heap.objs.size + 4, s1.heap.objs.size, s1.heap.objs.size + 1, s1.heap.objs.size + 2], d ∈ List.range' s1.heap.objs.size 8 := fun d hd => by
          rw [List.mem_range']
          simp at hd
          rcases hd with z | z | z | z | z | z
          · exact ⟨5, by omega, by omega⟩
          · exact ⟨3, by omega, by omega⟩
          · exact ⟨4, by omega, by omega⟩
          · exact ⟨0, by omega, by omega⟩
          · exact ⟨1, by omega, by omega⟩
          · exact ⟨2, by omega, by omega⟩
        have D : ZA3 (s1.heap.objs.size + 5) (s1.heap.objs.size + 3) (s1.heap.objs.size + 4) s1.heap.objs.size (s1.heap.objs.size + 1) (s1.heap.objs.size + 2) S1 S2 S3 := ⟨by simp, Src.ap_sub a1 sub, Src.ap_sub a2 sub, Src.ap_sub a3 sub⟩
        refine ⟨s1.heap.objs.size + 5, [s1.heap.objs.size + 5, s1.heap.objs.size + 3, s1.heap.objs.size + 4, s1.heap.objs.size, s1.heap.objs.size + 1, s1.heap.objs.size + 2], _, _, H1, rfl, I2, turn_P3 D, ⟨hz, hTI, ⟨_, _, _, hTO⟩, p1 _ _ h1, p2 _ _ h2, p3 _ _ h3⟩, fun c hc => ?_, q⟩
        have hle : s1.heap.objs.size ≤ c := by
          have := sub c hc
          rw [List.mem_range'] at this
          obtain ⟨j, _, rfl⟩ := this
          omega
        exact I1.fpOk hle (I1.hok.fresh hle)
theorem pi_enumS {X : Cx} {e : Expr} {ta : TA} {p pos tpos : Pos} {elts : List Expr} {kk : Nat} (hg : Gl X "enumerate") (hm : X.mg "enumerate" = none) (ha : PA X [e] ta) (hs : starEach [e] X.env = [(false, eval e X.env)] := by rfl) :
    PI X (.Tuple elts kk tpos) (.Call (.Name "enumerate" p) [e] [] pos) (iEnumS X.K ta) := by
  refine ⟨fun pins s σ H R I h => ?_⟩
  refine Call_ (ld_blt I hg hm boot_enumerate (PyProof.Rows.callWith_type1 (thn (ha.run pos pins s σ H _ I h) fun us s1 ⟨vs, H1, I1, r1, q1⟩ => ?_) hs rfl))
  obtain ⟨S, xs, ex, hq, q⟩ := q1
  subst ex
  cases r1 with
  | cons r rr =>
    cases rr
    have fin : ∀ h', IsEnum h' (s1.heap.objs.size + 1) s1.heap.objs.size 0 .none → S.ip s1.heap.objs.size 0 h' → (∀ b o, s1.heap.get? b = some o → h'.get? b = some o) → S.ap [s1.heap.objs.size + 1, s1.heap.objs.size] → wpAny (model X.prog X.w) X.A (pyIter (.ref (s1.heap.objs.size + 1))) (PIE X pins σ (.Tuple elts kk tpos) R) X.xe { s1 with heap := h' } := fun h' he hit hk ap => by
      refine wpAny_pyIter_enum he ?_
      have I2 : Inv X pins σ H1 { s1 with heap := h' } := I1.kept (t' := s1.toks) hk
      refine ⟨s1.heap.objs.size + 1, [s1.heap.objs.size + 1, s1.heap.objs.size], _, _, H1, rfl, I2, turn_E (S := S) (Nat.succ_ne_self _) ap, ⟨⟨.none, he⟩, hit⟩, fun b hb => ?_, q⟩
      have e' : b = s1.heap.objs.size + 1 ∨ b = s1.heap.objs.size := by simpa using hb
      have hle : s1.heap.objs.size ≤ b := by
        rcases e' with z | z
        · rw [z]; exact Nat.le_add_right _ _
        · rw [z]; exact Nat.le_refl _
      exact I1.fpOk hle (I1.hok.fresh hle)
    have lt : ∀ a, a < s1.heap.objs.size → a ∉ [s1.heap.objs.size + 1, s1.heap.objs.size] := fun a ha z => by
      simp at z
      omega
    cases S with
    | lst a =>
      obtain ⟨its, rv, p', hz⟩ := I1.list hq
      cases r
      exact call_enumerate_list p'.isList fun h' he hit hsz hk => fin h' he hit hk (lt a p'.lt)
    | tup a =>
      obtain ⟨its, rv, p', hz⟩ := I1.tuple hq
      cases r
      exact call_enumerate_tup (show s1.heap.IsTuple a its.toArray from p') fun h' he hit hsz hk => fin h' he hit hk (lt a (by obtain ⟨o, ho, _⟩ := p'; exact Heap.lt_size ho))
    | str z =>
      obtain ⟨t, rfl⟩ := r
      exact call_enumerate_str fun h' he hit hsz hk => fin h' he ⟨t, hit⟩ hk trivial
end PX

/-! PX, part g: what is walked; comprehensions. -/
namespace PX
open PySem PySem.Spec PyProof.Rows L2

/-- at the addresses A nothing has changed -/
def Kept (A : List Addr) (H H' : Hp) : Prop := ∀ a ∈ A, ∀ o, H a = some o → H' a = some o
theorem kept_l {K : PySem.W.Frag} {H H' : Hp} {a : Addr} {xs : List V} (h : SqL K H a xs) (k : Kept [a] H H') : SqL K H' a xs := by
  rcases h with (h | ⟨o, h⟩) | h
  · exact .inl (.inl (k a (by simp) _ h))
  · exact .inl (.inr ⟨o, k a (by simp) _ h⟩)
  · exact .inr h
theorem kept_t {K : PySem.W.Frag} {H H' : Hp} {a : Addr} {xs : List V} (h : SqT K H a xs) (k : Kept [a] H H') : SqT K H' a xs := by
  rcases h with (h | ⟨o, h⟩) | h
  · exact .inl (.inl (k a (by simp) _ h))
  · exact .inl (.inr ⟨o, k a (by simp) _ h⟩)
  · exact .inr h
/-- later: what is frozen stays, tuples stay -/
structure Later (F0 H0 F H : Hp) : Prop where
  ff : Same F0 F
  tt : ∀ a vs, H0 a = some (.tup vs) → H a = some (.tup vs)
theorem Later.r {K : Kx} {F0 H0 F H : Hp} (l : Later F0 H0 F H) {v : V} {d : D} (h : R K F0 H0 v d []) : R K F H v d [] := h.mono l.ff l.tt fun _ z => nomatch z
theorem Later.rs {K : Kx} {F0 H0 F H : Hp} (l : Later F0 H0 F H) {v : List V} {d : List D} (h : Rs K F0 H0 v d []) : Rs K F H v d [] := h.mono l.ff l.tt fun _ z => nomatch z
/-- J gives the items ds, one after another, as long as nothing changes at A -/
def IterOk (K : Kx) (F0 H0 : Hp) (J : It) (ds : List D) (A : List Addr) : Prop :=
  ∃ G Y, Walk J ds.length G Y ∧ (∀ H, Kept A H0 H → G H) ∧ ∀ i H x H', i < ds.length → Kept A H0 H → (∀ a vs, H0 a = some (.tup vs) → H a = some (.tup vs)) → Y i H x H' →
    ∃ d, ds[i]? = some d ∧ Same H H' ∧ ∀ F, Same F0 F → R K F H' x d []

section
variable {X : Cx} {W : WX} {K : Kx} {σ : L2.St} {F H : Hp} {view : Bool} {Q : VK}
theorem iter_listA {a : Addr} {A : List Addr} {vs : List V} {ds : List D} (h : ∀ H', Kept A H H' → SqL K.fr H' a vs) (hs : Rs K F H vs ds []) : IterOk K F H (Itl K.fr a) ds A := by
  refine ⟨_, _, by rw [← hs.length]; exact walk_list (xs := vs), h, fun i H1 x H2 hi k ht y => ?_⟩
  obtain ⟨rfl, e⟩ := y
  obtain ⟨d, g, e1, r, n⟩ := hs.get' e
  have : g = [] := List.eq_nil_iff_forall_not_mem.mpr fun p hp => nomatch n p hp
  subst this
  exact ⟨d, e1, Same.refl _, fun F' s => r.mono s ht fun _ z => nomatch z⟩
theorem iter_tupA {a : Addr} {A : List Addr} {vs : List V} {ds : List D} (h : ∀ H', Kept A H H' → SqT K.fr H' a vs) (hs : Rs K F H vs ds []) : IterOk K F H (Itt K.fr a) ds A := by
  refine ⟨_, _, by rw [← hs.length]; exact walk_tup (xs := vs), h, fun i H1 x H2 hi k ht y => ?_⟩
  obtain ⟨rfl, e⟩ := y
  obtain ⟨d, g, e1, r, n⟩ := hs.get' e
  have : g = [] := List.eq_nil_iff_forall_not_mem.mpr fun p hp => nomatch n p hp
  subst this
  exact ⟨d, e1, Same.refl _, fun F' s => r.mono s ht fun _ z => nomatch z⟩
theorem iter_str {z : Str} : IterOk K F H (Its z) (z.cps.toList.map fun c => .str ⟨#[c]⟩) [] := by
  refine ⟨_, _, by rw [List.length_map, Array.length_toList]; exact walk_str (z := z), fun _ _ => trivial, fun i H1 x H2 hi k ht y => ?_⟩
  obtain ⟨rfl, c, e, rfl⟩ := y
  exact ⟨.str ⟨#[c]⟩, by rw [List.getElem?_map, Array.getElem?_toList, e]; rfl, Same.refl _, fun _ _ => .str _⟩
theorem iter_range {lo n : Int} : IterOk K F H (Itr lo (n - lo).toNat) (rngL lo n) [] := by
  refine ⟨_, _, by unfold rngL; rw [List.length_map, List.length_range]; exact walk_range, fun _ _ => trivial, fun i H1 x H2 hi k ht y => ?_⟩
  obtain ⟨rfl, rfl⟩ := y
  unfold rngL at hi ⊢
  rw [List.length_map, List.length_range] at hi
  exact ⟨.int (lo + i), by rw [List.getElem?_map, List.getElem?_range hi]; rfl, Same.refl _, fun _ _ => .int _⟩
theorem iter_rev {a : Addr} {A : List Addr} {vs : List V} {ds : List D} (h : ∀ H', Kept A H H' → SqL K.fr H' a vs) (hs : Rs K F H vs ds []) : IterOk K F H (Itv K.fr a vs.length) ds.reverse A := by
  refine ⟨_, _, by rw [List.length_reverse, ← hs.length]; exact walk_rev (xs := vs), h, fun i H1 x H2 hi k ht y => ?_⟩
  obtain ⟨rfl, e⟩ := y
  rw [List.length_reverse, ← hs.length] at hi
  obtain ⟨d, g, e1, r, n⟩ := hs.get' e
  have : g = [] := List.eq_nil_iff_forall_not_mem.mpr fun p hp => nomatch n p hp
  subst this
  refine ⟨d, ?_, Same.refl _, fun F' s => r.mono s ht fun _ z => nomatch z⟩
  rw [List.getElem?_reverse (by rw [← hs.length]; exact hi), ← hs.length]
  exact e1
theorem pair_r {F' : Hp} {H1 : Hp} {T : Addr} {x y : V} {d e : D} (n : H1 T = none) (r1 : R K F' H1 x d []) (r2 : R K F' H1 y e []) : R K F' (upd H1 T (.tup [x, y])) (.ref T) (.tup [d, e]) [] :=
  .tup upd_same (.cons (f := []) (g := []) (r1.mono (Same.refl _) (fun _ _ => same_tup (same_new n)) fun _ z => nomatch z)
    (.cons (f := []) (g := []) (r2.mono (Same.refl _) (fun _ _ => same_tup (same_new n)) fun _ z => nomatch z) .nil (fun _ z => nomatch z)) (fun _ z => nomatch z))
theorem iter_enum {a : Addr} {A : List Addr} {vs : List V} {ds : List D} (h : ∀ H', Kept A H H' → SqL K.fr H' a vs) (hs : Rs K F H vs ds []) : IterOk K F H (Ite K.fr a) (enumL ds) A := by
  refine ⟨_, _, by unfold enumL; rw [List.length_map, List.length_zipIdx, ← hs.length]; exact walk_enum (xs := vs), h, fun i H1 x H2 hi k ht y => ?_⟩
  obtain ⟨T, u, w, rfl, nT, rfl, e1, e2⟩ := y
  obtain ⟨d, g, e3, r, n⟩ := hs.get' e2
  have : g = [] := List.eq_nil_iff_forall_not_mem.mpr fun p hp => nomatch n p hp
  subst this
  cases e1
  refine ⟨.tup [.int (i : Nat), d], ?_, same_new nT, fun F' s => pair_r nT (.int _) (r.mono s ht fun _ z => nomatch z)⟩
  unfold enumL
  rw [List.getElem?_map, List.getElem?_zipIdx, e3]
  simp
theorem zipL_get {xs ys : List D} {i : Nat} {d e : D} (h1 : xs[i]? = some d) (h2 : ys[i]? = some e) : (zipL xs ys)[i]? = some (.tup [d, e]) := by
  unfold zipL
  rw [List.getElem?_zipWith, h1, h2]
theorem zipL_length (xs ys : List D) : (zipL xs ys).length = min xs.length ys.length := by
  unfold zipL
  rw [List.length_zipWith]
theorem iter_zip {a b : Addr} {A : List Addr} {vs ws : List V} {ds es : List D} (h : ∀ H', Kept A H H' → SqL K.fr H' a vs ∧ SqL K.fr H' b ws) (hs : Rs K F H vs ds []) (hs' : Rs K F H ws es []) : IterOk K F H (Itz K.fr a b) (zipL ds es) A := by
  refine ⟨_, _, by rw [zipL_length, ← hs.length, ← hs'.length]; exact walk_zip (xs := vs) (ys := ws) rfl, h, fun i H1 x H2 hi k ht y => ?_⟩
  obtain ⟨T, u, w, rfl, nT, rfl, e1, e2⟩ := y
  obtain ⟨d, g, e3, r, n⟩ := hs.get' e1
  obtain ⟨e, g2, e4, r2, n2⟩ := hs'.get' e2
  have : g = [] := List.eq_nil_iff_forall_not_mem.mpr fun p hp => nomatch n p hp
  subst this
  have : g2 = [] := List.eq_nil_iff_forall_not_mem.mpr fun p hp => nomatch n2 p hp
  subst this
  exact ⟨_, zipL_get e3 e4, same_new nT, fun F' s => pair_r nT (r.mono s ht fun _ z => nomatch z) (r2.mono s ht fun _ z => nomatch z)⟩
theorem walk_zipT {K : PySem.W.Frag} {a b : Addr} {xs ys : List V} {n : Nat} (hn : n = min xs.length ys.length) : Walk (RZ.ItzT K a b) n (fun H => SqT K H a xs ∧ SqT K H b ys) (YPair (fun i => xs[i]?) (fun i => ys[i]?)) := by
  subst hn
  refine ⟨fun i _ hi q => ?_, fun _ q => ⟨xs, ys, q.1, q.2, by omega⟩, fun i H v H' _ q y => ?_⟩
  · have h1 : i < xs.length := by omega
    have h2 : i < ys.length := by omega
    exact ⟨xs, ys, xs[i], ys[i], q.1, q.2, by simp [h1], by simp [h2]⟩
  · obtain ⟨T, x, z, h1, h2, h3, h4, h5⟩ := y
    exact ⟨T, x, z, h1, h2, h3, h4 xs q.1, h5 ys q.2⟩
theorem iter_zipT {a b : Addr} {A : List Addr} {vs ws : List V} {ds es : List D} (h : ∀ H', Kept A H H' → SqT K.fr H' a vs ∧ SqT K.fr H' b ws) (hs : Rs K F H vs ds []) (hs' : Rs K F H ws es []) : IterOk K F H (RZ.ItzT K.fr a b) (zipL ds es) A := by
  refine ⟨_, _, by rw [zipL_length, ← hs.length, ← hs'.length]; exact walk_zipT (xs := vs) (ys := ws) rfl, h, fun i H1 x H2 hi k ht y => ?_⟩
  obtain ⟨T, u, w, rfl, nT, rfl, e1, e2⟩ := y
  obtain ⟨d, g, e3, r, n⟩ := hs.get' e1
  obtain ⟨e, g2, e4, r2, n2⟩ := hs'.get' e2
  have : g = [] := List.eq_nil_iff_forall_not_mem.mpr fun p hp => nomatch n p hp
  subst this
  have : g2 = [] := List.eq_nil_iff_forall_not_mem.mpr fun p hp => nomatch n2 p hp
  subst this
  exact ⟨_, zipL_get e3 e4, same_new nT, fun F' s => pair_r nT (r.mono s ht fun _ z => nomatch z) (r2.mono s ht fun _ z => nomatch z)⟩

/-! ### the reading of what is walked -/
/-- a is none of the owned boxes -/
def Off (g : Nat → List Addr) (A : List Addr) : Prop := ∀ a ∈ A, ∀ i, a ∉ g i
def RestI (K : Kx) (W : WX) (σ : L2.St) (F H : Hp) (g : Nat → List Addr) (r : Res D) (view : Bool) (R : It → Hp → Prop) : Prop :=
  match r with
  | .ok d => ∃ ds, itemsOf d = some ds ∧ ∀ J F' H' A, Grow F H F' H' → IterOk K F' H' J ds A → ((view = true → d.no = true) → Off g A) → R J H'
  | .exc c fs => ∀ C d F' H', K.ca c = some C → Grow F H F' H' → ExD fs d → W (.ref C) d σ H'
  | .stuck => False
def tI (K : Kx) (W : WX) (m : List D → Res D) (view : Bool) : TI := fun σ H R => ∃ F δ g, Same F H ∧ SR K F H σ δ g ∧ RestI K W σ F H g (m δ) view R
theorem off_nil {g : Nat → List Addr} : Off g [] := fun _ z => nomatch z
/-- what is tracked as anything but a box of ours -/
theorem SR.not_tup {δ : List D} {g : Nat → List Addr} (s : SR K F H σ δ g) {a : Addr} {xs : List V} (h : H a = some (.tup xs)) : ∀ i, a ∉ g i := fun i hi => by
  obtain ⟨_, k, o, vs, e, hk⟩ := s.own i a hi
  rw [h] at e
  cases e
  cases hk
theorem SR.not_frz {δ : List D} {g : Nat → List Addr} (s : SR K F H σ δ g) {a : Addr} {o : Obj} {u : HO} (h : H a = some (.frz o u)) : ∀ i, a ∉ g i := fun i hi => by
  obtain ⟨_, k, o, vs, e, hk⟩ := s.own i a hi
  rw [h] at e
  cases e
  cases hk
theorem SR.not_fz {δ : List D} {g : Nat → List Addr} (s : SR K F H σ δ g) {a : Addr} (h : F a ≠ none) : ∀ i, a ∉ g i := fun i hi => h (s.own i a hi).1
theorem SR.not_new {δ : List D} {g : Nat → List Addr} (s : SR K F H σ δ g) {a : Addr} (h : H a = none) : ∀ i, a ∉ g i := fun i hi => by
  obtain ⟨_, k, o, vs, e, hk⟩ := s.own i a hi
  rw [h] at e
  cases e
/-- a list: what it leans on, none of it ours if it is fresh or frozen -/
theorem R.lst_off {δ : List D} {g : Nat → List Addr} {F' H' : Hp} (s : SR K F H σ δ g) (gr : Grow F H F' H') {v : V} {o : Bool} {xs : List D} {fp : List Addr} (h : R K F' H' v (.box o .lst xs) fp) (n : view = false → ∀ p ∈ fp, H p = none) :
    ∃ a vs gg A, v = .ref a ∧ H' a = some (.lst vs) ∧ Rs K F' H' vs xs gg ∧ (∀ H2, Kept A H' H2 → SqL K.fr H2 a vs) ∧ ((view = true → (D.box o .lst xs).no = true) → Off g A) := by
  cases h with
  | frz h hs =>
    obtain ⟨o, e, hk⟩ := h
    cases hk
    refine ⟨_, _, [], [_], rfl, gr.fh _ _ e, hs, fun H2 k => SqL.of (k _ List.mem_cons_self _ (gr.fh _ _ e)), fun _ a ha i hi => ?_⟩
    rw [List.mem_singleton] at ha
    subst ha
    exact (s.grow gr).not_fz (by rw [e]; simp) i hi
  | own h hk nf hs na =>
    cases hk
    refine ⟨_, _, _, [_], rfl, h, hs, fun H2 k => SqL.of (k _ List.mem_cons_self _ h), fun hv a ha i hi => ?_⟩
    rw [List.mem_singleton] at ha
    subst ha
    cases view with
    | false => exact s.not_new (n rfl _ List.mem_cons_self) i hi
    | true =>
      have := hv rfl
      unfold D.no at this
      cases this
theorem R.tup_off {δ : List D} {g : Nat → List Addr} {F' H' : Hp} (s : SR K F H σ δ g) (gr : Grow F H F' H') {v : V} {xs : List D} {fp : List Addr} (h : R K F' H' v (.tup xs) fp) :
    ∃ a vs A, v = .ref a ∧ SqT K.fr H' a vs ∧ Rs K F' H' vs xs fp ∧ (∀ H2, Kept A H' H2 → SqT K.fr H2 a vs) ∧ Off g A := by
  obtain ⟨a, vs, rfl, ht, hs⟩ := h.tup_inv
  rcases ht with (h | ⟨o, h⟩) | h
  · exact ⟨a, vs, [a], rfl, .inl (.inl h), hs, fun H2 k => .inl (.inl (k a (by simp) _ h)), fun b hb i hi => by
      rw [List.mem_singleton.mp hb] at hi
      exact (s.grow gr).not_tup h i hi⟩
  · exact ⟨a, vs, [a], rfl, .inl (.inr ⟨o, h⟩), hs, fun H2 k => .inl (.inr ⟨o, k a (by simp) _ h⟩), fun b hb i hi => by
      rw [List.mem_singleton.mp hb] at hi
      exact (s.grow gr).not_frz h i hi⟩
  · exact ⟨a, vs, [], rfl, .inr h, hs, fun _ _ => .inr h, off_nil⟩
theorem R.scr_off {δ : List D} {g : Nat → List Addr} {F' H' : Hp} (s : SR K F H σ δ g) (gr : Grow F H F' H') {v : V} {ns : List Int} {fp : List Addr} (h : R K F' H' v (.scr ns) fp) :
    ∃ a A, v = .ref a ∧ SqL K.fr H' a (ns.map V.int) ∧ (∀ H2, Kept A H' H2 → SqL K.fr H2 a (ns.map V.int)) ∧ Off g A := by
  cases h with
  | scr ns h =>
    rcases h with (h | ⟨o, h⟩) | h
    · exact ⟨_, [_], rfl, .inl (.inl (gr.fh _ _ h)), fun H2 k => .inl (.inl (k _ List.mem_cons_self _ (gr.fh _ _ h))), fun b hb i hi => by
        rw [List.mem_singleton.mp hb] at hi
        exact (s.grow gr).not_fz (by rw [h]; simp) i hi⟩
    · exact ⟨_, [_], rfl, .inl (.inr ⟨o, gr.fh _ _ h⟩), fun H2 k => .inl (.inr ⟨o, k _ List.mem_cons_self _ (gr.fh _ _ h)⟩), fun b hb i hi => by
        rw [List.mem_singleton.mp hb] at hi
        exact (s.grow gr).not_fz (by rw [h]; simp) i hi⟩
    · exact ⟨_, [], rfl, .inr h, fun _ _ => .inr h, off_nil⟩
theorem R.ctup_off {g : Nat → List Addr} {F' H' : Hp} {v : V} {xs : List Str} {fp : List Addr} (h : R K F' H' v (.ctup xs) fp) :
    ∃ a A, v = .ref a ∧ SqT K.fr H' a (xs.map V.str) ∧ (∀ H2, Kept A H' H2 → SqT K.fr H2 a (xs.map V.str)) ∧ Off g A := by
  cases h with
  | ctup xs h _ => exact ⟨_, [], rfl, h H', fun H2 _ => h H2, off_nil⟩
/-- any expression whose value is a list, a tuple, a text, the script -/
theorem pi_any {tg x : Expr} {m : List D → Res D} (hx : PE X x (tE K W m view)) (hk : X.K = K.fr) : PI X tg x (tI K W m view) := by
  refine PI.imp (PI.orr (pi_list (tg := tg) hx) (PI.orr (pi_tup (tg := tg) hx) (pi_str (tg := tg) hx))) fun σ H Rr q => ?_
  obtain ⟨F, δ, g, s, sr, q⟩ := q
  rw [hk]
  cases e : m δ with
  | stuck => rw [e] at q; exact q.elim
  | exc c fs =>
    rw [e] at q
    exact .inl ⟨F, δ, g, s, sr, by rw [e]; exact q⟩
  | ok d =>
    rw [e] at q
    obtain ⟨ds, hi, q⟩ := q
    unfold itemsOf at hi
    split at hi
    · rename_i xs
      split at hi
      · rename_i hn
        cases hi
        refine .inr (.inl ⟨F, δ, g, s, sr, ?_⟩)
        rw [e]
        intro v F' H' fp gr r n
        obtain ⟨a, vs, A, rfl, ht, hs, hk, ho⟩ := r.tup_off sr gr
        exact ⟨a, rfl, ⟨vs, ht⟩, q _ _ _ _ gr (iter_tupA hk (hs.nos0 hn)) fun _ => ho⟩
      · cases hi
    · rename_i o xs
      split at hi
      · rename_i hn
        cases hi
        refine .inl ⟨F, δ, g, s, sr, ?_⟩
        rw [e]
        intro v F' H' fp gr r n
        obtain ⟨a, vs, gg, A, rfl, ht, hs, hk, ho⟩ := r.lst_off sr gr n
        exact ⟨a, rfl, ⟨vs, SqL.of ht⟩, q _ _ _ _ gr (iter_listA hk (hs.nos0 hn)) ho⟩
      · cases hi
    · rename_i z
      cases hi
      refine .inr (.inr ⟨F, δ, g, s, sr, ?_⟩)
      rw [e]
      intro v F' H' fp gr r n
      exact ⟨z, r.str_inv, q _ _ _ _ gr iter_str fun _ => off_nil⟩
    · rename_i ns
      cases hi
      refine .inl ⟨F, δ, g, s, sr, ?_⟩
      rw [e]
      intro v F' H' fp gr r n
      obtain ⟨a, A, rfl, ht, hk, ho⟩ := r.scr_off sr gr
      exact ⟨a, rfl, ⟨_, ht⟩, q _ _ _ _ gr (iter_listA hk (ints_rs ns)) fun _ => ho⟩
    · rename_i xs
      cases hi
      refine .inr (.inl ⟨F, δ, g, s, sr, ?_⟩)
      rw [e]
      intro v F' H' fp gr r n
      obtain ⟨a, A, rfl, ht, hk, ho⟩ := r.ctup_off (g := g) (F' := F') (H' := H')
      exact ⟨a, rfl, ⟨_, ht⟩, q _ _ _ _ gr (iter_tupA hk (strs_rs xs)) fun _ => ho⟩
    · cases hi
theorem RestI.grow {F1 H1 : Hp} {g : Nat → List Addr} {r : Res D} {R : It → Hp → Prop} (h : RestI K W σ F H g r view R) (a : Grow F H F1 H1) : RestI K W σ F1 H1 g r view R := by
  cases r with
  | ok d =>
    obtain ⟨ds, e, k⟩ := h
    exact ⟨ds, e, fun J F' H' A b => k J F' H' A (a.trans b)⟩
  | exc c fs => exact fun C d F' H' e b q => h C d F' H' e (a.trans b) q
  | stuck => exact h
theorem Rest.bindI {g : Nat → List Addr} {r : Res D} {f : D → Res D} {va : Bool} {Q : It → Hp → Prop} (h : RestI K W σ F H g (r.bind f) view Q) :
    Rest K W σ F H r va fun v H1 => ∃ F1 x fp, Grow F H F1 H1 ∧ R K F1 H1 v x fp ∧ (va = false → ∀ p ∈ fp, H p = none) ∧ RestI K W σ F1 H1 g (f x) view Q := by
  cases r with
  | ok d => exact fun v F' H' fp b q n => ⟨F', d, fp, b, q, n, RestI.grow h b⟩
  | exc c fs => exact h
  | stuck => exact h
theorem RestI.vlb {g : Nat → List Addr} {r : Res D} {f : D → Res D} {va : Bool} {Q : It → Hp → Prop} (h : RestI K W σ F H g ((r.bind (vlD va)).bind f) view Q) :
    Rest K W σ F H r va fun v H1 => ∃ F1 x fp, Grow F H F1 H1 ∧ R K F1 H1 v x fp ∧ (∀ p ∈ fp, H p = none) ∧ RestI K W σ F1 H1 g (f x) view Q := by
  cases r with
  | ok d =>
    cases e : vlD va d with
    | ok d' =>
      obtain ⟨e1, e2⟩ := vl_ok e
      subst e1
      have h : RestI K W σ F H g ((vlD va d').bind f) view Q := h
      rw [e] at h
      exact fun v F' H' fp gr r n => ⟨F', d', fp, gr, r, vl_fresh e2 r n, RestI.grow h gr⟩
    | exc c fs => unfold vlD at e; split at e <;> cases e
    | stuck =>
      have h : RestI K W σ F H g ((vlD va d).bind f) view Q := h
      rw [e] at h
      exact h.elim
  | exc c fs => exact h
  | stuck => exact h
theorem smallI_ok {n : Int} (h : smallI n) : -(2 ^ 62) ≤ n ∧ n < 2 ^ 62 := by
  unfold smallI at h
  omega
theorem items_tup {xs : List D} (h : D.nos xs = true) : itemsOf (.tup xs) = some xs := if_pos h
theorem nos_map {α : Type} (f : α → D) (hf : ∀ a, (f a).no = true) : ∀ xs : List α, D.nos (xs.map f) = true
  | [] => rfl
  | x :: xs => by
    rw [List.map_cons]
    unfold D.nos
    rw [hf x, nos_map f hf xs]
    rfl
theorem nos_get : ∀ {xs : List D}, D.nos xs = true → ∀ d ∈ xs, d.no = true
  | x :: xs, h, d, hd => by
    unfold D.nos at h
    rcases List.mem_cons.mp hd with rfl | hd
    · exact (and_t h).1
    · exact nos_get (and_t h).2 d hd
theorem nos_of : ∀ {xs : List D}, (∀ d ∈ xs, d.no = true) → D.nos xs = true
  | [], _ => rfl
  | x :: xs, h => by
    unfold D.nos
    rw [h x (by simp), nos_of fun d hd => h d (List.mem_cons_of_mem _ hd)]
    rfl
theorem nos_rng (lo n : Int) : D.nos (rngL lo n) = true := nos_map _ (fun _ => rfl) _
theorem nos_enum {xs : List D} (h : D.nos xs = true) : D.nos (enumL xs) = true := nos_of fun d hd => by
  unfold enumL at hd
  obtain ⟨p, hp, rfl⟩ := List.mem_map.mp hd
  unfold D.no D.nos D.nos
  have : p.1 ∈ xs := by
    rw [List.mem_zipIdx_iff_getElem?] at hp
    exact List.mem_of_getElem? hp
  rw [nos_get h _ this]
  rfl
theorem nos_zip {xs ys : List D} (h : D.nos xs = true) (h' : D.nos ys = true) : D.nos (zipL xs ys) = true := nos_of fun d hd => by
  unfold zipL at hd
  obtain ⟨i, hi⟩ := List.mem_iff_getElem?.mp hd
  rw [List.getElem?_zipWith] at hi
  split at hi
  · rename_i a b e1 e2
    cases hi
    unfold D.no D.nos D.nos D.nos
    rw [nos_get h a (List.mem_of_getElem? e1), nos_get h' b (List.mem_of_getElem? e2)]
    rfl
  · cases hi
theorem nos_rev {xs : List D} (h : D.nos xs = true) : D.nos xs.reverse = true := nos_of fun d hd => nos_get h d (List.mem_reverse.mp hd)
section
variable {tg x y : Expr} {m m2 : List D → Res D} {va vb : Bool} {p pos tpos : Pos} {elts : List Expr} {kk : Nat}
theorem pi_rng1 (hg : Gl X "range") (hm : X.mg "range" = none) (hx : PE X x (tE K W m va)) (hs : notStar x = true) : PI X tg (.Call (.Name "range" p) [x] [] pos) (tI K W (fun δ => (m δ).bind rng1D) view) := by
  refine PI.imp (pi_range1 hg hm (pa_cons hx pa_nil (star_of hs)) (by rw [star_of hs]; rfl)) fun σ H R q => ?_
  obtain ⟨F, δ, g, s, sr, q⟩ := q
  refine ⟨F, δ, g, s, sr, (Rest.bindI q).mono fun v H1 q => ?_⟩
  obtain ⟨F1, d, fp, gr, r, _, q⟩ := q
  unfold rng1D at q
  split at q
  · rename_i n
    split at q
    · rename_i hn
      obtain ⟨ds, e, q⟩ := q
      rw [items_tup (nos_rng 0 n)] at e
      cases e
      cases r.int_inv
      have q := q (Itr 0 (n - 0).toNat) F1 H1 [] (Grow.refl gr.fh) iter_range fun _ => off_nil
      rw [show n - 0 = n from by omega] at q
      exact ⟨n, rfl, (smallI_ok hn).1, (smallI_ok hn).2, q⟩
    · exact q.elim
  · exact q.elim
theorem pi_rng2 (hg : Gl X "range") (hm : X.mg "range" = none) (hx : PE X x (tE K W m va)) (hy : PE X y (tE K W m2 vb)) (hs : notStar x = true) (hs2 : notStar y = true) : PI X tg (.Call (.Name "range" p) [x, y] [] pos) (tI K W (fun δ => (m δ).bind fun a => (m2 δ).bind fun b => rng2D a b) view) := by
  refine PI.imp (pi_range2 hg hm (pa_cons hx (pa_cons hy pa_nil (star_of hs2)) (star_of hs)) (by rw [star_of hs, star_of hs2]; rfl) (by rw [star_of hs2]; rfl)) fun σ H R q => ?_
  obtain ⟨F, δ, g, s, sr, q⟩ := q
  refine ⟨F, δ, g, s, sr, (Rest.bindI q).mono fun v H1 q => ?_⟩
  obtain ⟨F1, d, fp, gr, r, _, q⟩ := q
  refine ⟨F1, δ, g, gr.fh, sr.grow gr, (Rest.bindI q).mono fun w H2 q => ?_⟩
  obtain ⟨F2, d2, fp2, gr2, r2, _, q'⟩ := q
  clear q
  have q := q'
  clear q'
  unfold rng2D at q
  split at q
  · rename_i lo n
    split at q
    · rename_i hn
      obtain ⟨ds, e, q⟩ := q
      rw [items_tup (nos_rng lo n)] at e
      cases e
      cases r.int_inv
      cases r2.int_inv
      exact ⟨lo, n, rfl, ⟨(smallI_ok hn.1).1, (smallI_ok hn.1).2, (smallI_ok hn.2).1, (smallI_ok hn.2).2⟩, q _ F2 H2 [] (Grow.refl gr2.fh) iter_range fun _ => off_nil⟩
    · exact q.elim
  · exact q.elim
theorem pi_rvd (hg : Gl X "reversed") (hm : X.mg "reversed" = none) (hk : X.K = K.fr) (hx : PE X x (tE K W m va)) (hs : notStar x = true) : PI X tg (.Call (.Name "reversed" p) [x] [] pos) (tI K W (fun δ => ((m δ).bind (vlD va)).bind revdD) view) := by
  refine PI.imp (pi_reversed hg hm (pa_cons hx pa_nil (star_of hs)) (by rw [star_of hs]; rfl)) fun σ H R q => ?_
  obtain ⟨F, δ, g, s, sr, q⟩ := q
  rw [hk]
  refine ⟨F, δ, g, s, sr, (RestI.vlb q).mono fun v H1 q => ?_⟩
  obtain ⟨F1, d, fp, gr, r, n, q⟩ := q
  unfold revdD at q
  split at q
  · rename_i o xs
    split at q
    · rename_i hn
      obtain ⟨ds, e, q⟩ := q
      rw [items_tup (nos_rev hn)] at e
      cases e
      obtain ⟨a, vs, gg, A, rfl, ht, hs, hk, ho⟩ := r.lst_off (view := false) sr gr fun _ => n
      exact ⟨a, vs, rfl, SqL.of ht, q _ F1 H1 A (Grow.refl gr.fh) (iter_rev hk (hs.nos0 hn)) fun _ => ho fun e => nomatch e⟩
    · exact q.elim
  · exact q.elim
theorem walk_P {K : PySem.W.Frag} {S1 S2 : Src} {xs ys : List V} {n : Nat} (hn : n = min xs.length ys.length) : Walk (ItP K S1 S2) n (fun H => S1.st K H xs ∧ S2.st K H ys) (YPair (fun i => xs[i]?) (fun i => ys[i]?)) := by
  subst hn
  refine ⟨fun i _ hi q => ?_, fun _ q => ⟨xs, ys, q.1, q.2, rfl⟩, fun i H v H' _ q y => ?_⟩
  · have h1 : i < xs.length := by omega
    have h2 : i < ys.length := by omega
    exact ⟨xs, ys, xs[i], ys[i], q.1, q.2, by simp [h1], by simp [h2]⟩
  · obtain ⟨T, x, z, h1, h2, h3, h4, h5⟩ := y
    exact ⟨T, x, z, h1, h2, h3, h4 xs q.1, h5 ys q.2⟩
theorem iter_P {S1 S2 : Src} {A : List Addr} {vs ws : List V} {ds es : List D} (h : ∀ H', Kept A H H' → S1.st K.fr H' vs ∧ S2.st K.fr H' ws) (hs : Rs K F H vs ds []) (hs' : Rs K F H ws es []) : IterOk K F H (ItP K.fr S1 S2) (zipL ds es) A := by
  refine ⟨_, _, by rw [zipL_length, ← hs.length, ← hs'.length]; exact walk_P (xs := vs) (ys := ws) rfl, h, fun i H1 x H2 hi k ht y => ?_⟩
  obtain ⟨T, u, w, rfl, nT, rfl, e1, e2⟩ := y
  obtain ⟨d, g, e3, r, n⟩ := hs.get' e1
  obtain ⟨e, g2, e4, r2, n2⟩ := hs'.get' e2
  have : g = [] := List.eq_nil_iff_forall_not_mem.mpr fun p hp => nomatch n p hp
  subst this
  have : g2 = [] := List.eq_nil_iff_forall_not_mem.mpr fun p hp => nomatch n2 p hp
  subst this
  exact ⟨_, zipL_get e3 e4, same_new nT, fun F' s => pair_r nT (r.mono s ht fun _ z => nomatch z) (r2.mono s ht fun _ z => nomatch z)⟩
theorem zipL3_get : ∀ {xs ys zs : List D} {i : Nat} {d e f : D}, xs[i]? = some d → ys[i]? = some e → zs[i]? = some f → (zipL3 xs ys zs)[i]? = some (.tup [d, e, f])
  | x :: xs, y :: ys, z :: zs, 0, d, e, f, h1, h2, h3 => by
    simp at h1 h2 h3
    rw [← h1, ← h2, ← h3]
    rfl
  | x :: xs, y :: ys, z :: zs, i + 1, d, e, f, h1, h2, h3 => by
    have := zipL3_get (xs := xs) (ys := ys) (zs := zs) (i := i) (by simpa using h1) (by simpa using h2) (by simpa using h3)
    unfold zipL3
    simpa using this
  | [], _, _, _, _, _, _, h1, _, _ => by simp at h1
  | _ :: _, [], _, _, _, _, _, _, h2, _ => by simp at h2
  | _ :: _, _ :: _, [], _, _, _, _, _, _, h3 => by simp at h3
theorem zipL3_length : ∀ xs ys zs : List D, (zipL3 xs ys zs).length = min (min xs.length ys.length) zs.length
  | x :: xs, y :: ys, z :: zs => by
    unfold zipL3
    rw [List.length_cons, zipL3_length xs ys zs, List.length_cons, List.length_cons, List.length_cons]
    omega
  | [], ys, zs => by simp [zipL3]
  | _ :: _, [], zs => by simp [zipL3]
  | _ :: _, _ :: _, [] => by simp [zipL3]
theorem trip_r {F' : Hp} {H1 : Hp} {T : Addr} {x y z : V} {d e f : D} (n : H1 T = none) (r1 : R K F' H1 x d []) (r2 : R K F' H1 y e []) (r3 : R K F' H1 z f []) : R K F' (upd H1 T (.tup [x, y, z])) (.ref T) (.tup [d, e, f]) [] :=
  have m : ∀ {v : V} {d : D}, R K F' H1 v d [] → R K F' (upd H1 T (.tup [x, y, z])) v d [] := fun r => r.mono (Same.refl _) (fun _ _ => same_tup (same_new n)) fun _ z => nomatch z
  .tup upd_same (.cons (f := []) (g := []) (m r1) (.cons (f := []) (g := []) (m r2) (.cons (f := []) (g := []) (m r3) .nil (fun _ z => nomatch z)) (fun _ z => nomatch z)) (fun _ z => nomatch z))
theorem iter_P3 {S1 S2 S3 : Src} {A : List Addr} {vs ws us : List V} {ds es fs : List D} (h : ∀ H', Kept A H H' → S1.st K.fr H' vs ∧ S2.st K.fr H' ws ∧ S3.st K.fr H' us) (hs : Rs K F H vs ds []) (hs' : Rs K F H ws es []) (hs'' : Rs K F H us fs []) : IterOk K F H (ItP3 K.fr S1 S2 S3) (zipL3 ds es fs) A := by
  refine ⟨fun H => S1.st K.fr H vs ∧ S2.st K.fr H ws ∧ S3.st K.fr H us, fun i H v H' => ∃ T x y z, v = .ref T ∧ H T = none ∧ H' = upd H T (.tup [x, y, z]) ∧ vs[i]? = some x ∧ ws[i]? = some y ∧ us[i]? = some z, ?_, h, fun i H1 x H2 hi k ht y => ?_⟩
  · rw [zipL3_length, ← hs.length, ← hs'.length, ← hs''.length]
    refine ⟨fun i _ hi q => ?_, fun _ q => ⟨vs, ws, us, q.1, q.2.1, q.2.2, rfl⟩, fun i H v H' _ q y => ?_⟩
    · have h1 : i < vs.length := by omega
      have h2 : i < ws.length := by omega
      have h3 : i < us.length := by omega
      exact ⟨vs, ws, us, vs[i], ws[i], us[i], q.1, q.2.1, q.2.2, by simp [h1], by simp [h2], by simp [h3]⟩
    · obtain ⟨T, x, z, u, h1, h2, h3, h4, h5, h6⟩ := y
      exact ⟨T, x, z, u, h1, h2, h3, h4 vs q.1, h5 ws q.2.1, h6 us q.2.2⟩
  · obtain ⟨T, u, w, t, rfl, nT, rfl, e1, e2, e2'⟩ := y
    obtain ⟨d, g, e3, r, n⟩ := hs.get' e1
    obtain ⟨e, g2, e4, r2, n2⟩ := hs'.get' e2
    obtain ⟨f, g3, e5, r3, n3⟩ := hs''.get' e2'
    have : g = [] := List.eq_nil_iff_forall_not_mem.mpr fun p hp => nomatch n p hp
    subst this
    have : g2 = [] := List.eq_nil_iff_forall_not_mem.mpr fun p hp => nomatch n2 p hp
    subst this
    have : g3 = [] := List.eq_nil_iff_forall_not_mem.mpr fun p hp => nomatch n3 p hp
    subst this
    exact ⟨_, zipL3_get e3 e4 e5, same_new nT, fun F' s => trip_r nT (r.mono s ht fun _ z => nomatch z) (r2.mono s ht fun _ z => nomatch z) (r3.mono s ht fun _ z => nomatch z)⟩
theorem iter_E {S : Src} {A : List Addr} {vs : List V} {ds : List D} (h : ∀ H', Kept A H H' → S.st K.fr H' vs) (hs : Rs K F H vs ds []) : IterOk K F H (ItE K.fr S) (enumL ds) A := by
  refine ⟨fun H => S.st K.fr H vs, fun i H v H' => ∃ T x, v = .ref T ∧ H T = none ∧ H' = upd H T (.tup [.int (i : Nat), x]) ∧ vs[i]? = some x, ?_, h, fun i H1 x H2 hi k ht y => ?_⟩
  · have hl : (enumL ds).length = vs.length := by unfold enumL; rw [List.length_map, List.length_zipIdx, ← hs.length]
    rw [hl]
    refine ⟨fun i _ hi q => ⟨vs, vs[i], q, by simp [hi]⟩, fun _ q => ⟨vs, q, rfl⟩, fun i H v H' _ q y => ?_⟩
    obtain ⟨T, x, h1, h2, h3, h4⟩ := y
    exact ⟨T, x, h1, h2, h3, h4 vs q⟩
  · obtain ⟨T, w, rfl, nT, rfl, e2⟩ := y
    obtain ⟨d, g, e3, r, n⟩ := hs.get' e2
    have : g = [] := List.eq_nil_iff_forall_not_mem.mpr fun p hp => nomatch n p hp
    subst this
    refine ⟨.tup [.int (i : Nat), d], ?_, same_new nT, fun F' s => pair_r nT (.int _) (r.mono s ht fun _ z => nomatch z)⟩
    unfold enumL
    rw [List.getElem?_map, List.getElem?_zipIdx, e3]
    simp
/-- what is drawn from, none of it ours -/
theorem R.src {δ : List D} {g : Nat → List Addr} {F' H' : Hp} (s : SR K F H σ δ g) (gr : Grow F H F' H') {v : V} {d : D} {ds : List D} {fp : List Addr} (h : R K F' H' v d fp) (n : ∀ p ∈ fp, H p = none) (e : itemsOf d = some ds) :
    ∃ (S : Src) (A : List Addr) (vs : List V), v = S.v ∧ S.st K.fr H' vs ∧ Rs K F' H' vs ds [] ∧ (∀ H2, Kept A H' H2 → S.st K.fr H2 vs) ∧ Off g A := by
  unfold itemsOf at e
  split at e
  · split at e
    · rename_i hn
      cases e
      obtain ⟨a, vs, A, rfl, ht, hs, hk, ho⟩ := h.tup_off s gr
      exact ⟨.tup a, A, vs, rfl, ht, hs.nos0 hn, hk, ho⟩
    · cases e
  · split at e
    · rename_i hn
      cases e
      obtain ⟨a, vs, gg, A, rfl, ht, hs, hk, ho⟩ := h.lst_off (view := false) s gr fun _ => n
      exact ⟨.lst a, A, vs, rfl, SqL.of ht, hs.nos0 hn, hk, ho fun e => nomatch e⟩
    · cases e
  · cases e
    rename_i z
    refine ⟨.str z, [], _, h.str_inv, rfl, ?_, fun _ _ => rfl, off_nil⟩
    have : ∀ cs : List Nat, Rs K F' H' (cs.map fun c => V.str ⟨#[c]⟩) (cs.map fun c => D.str ⟨#[c]⟩) [] := fun cs => by
      induction cs with
      | nil => exact .nil
      | cons c cs ih => exact .cons (f := []) (g := []) (.str _) ih (fun _ z => nomatch z)
    exact this _
  · cases e
    obtain ⟨a, A, rfl, ht, hk, ho⟩ := h.scr_off s gr
    exact ⟨.lst a, A, _, rfl, ht, ints_rs _, hk, ho⟩
  · cases e
    obtain ⟨a, A, rfl, ht, hk, ho⟩ := h.ctup_off (g := g)
    exact ⟨.tup a, A, _, rfl, ht, strs_rs _, hk, ho⟩
  · cases e
theorem items_nos {d : D} {ds : List D} (e : itemsOf d = some ds) : D.nos ds = true := by
  unfold itemsOf at e
  split at e
  · split at e
    · rename_i hn; cases e; exact hn
    · cases e
  · split at e
    · rename_i hn; cases e; exact hn
    · cases e
  · cases e; exact nos_map _ (fun _ => rfl) _
  · cases e; exact nos_map _ (fun _ => rfl) _
  · cases e; exact nos_map _ (fun _ => rfl) _
  · cases e
theorem nos_zip3 : ∀ {xs ys zs : List D}, D.nos xs = true → D.nos ys = true → D.nos zs = true → D.nos (zipL3 xs ys zs) = true
  | x :: xs, y :: ys, z :: zs, h1, h2, h3 => by
    unfold zipL3
    unfold D.nos at h1 h2 h3 ⊢
    obtain ⟨a1, b1⟩ := and_t h1
    obtain ⟨a2, b2⟩ := and_t h2
    obtain ⟨a3, b3⟩ := and_t h3
    rw [nos_zip3 b1 b2 b3]
    unfold D.no D.nos D.nos D.nos D.nos
    rw [a1, a2, a3]
    rfl
  | [], ys, zs, _, _, _ => by simp [zipL3, D.nos]
  | _ :: _, [], zs, _, _, _ => by simp [zipL3, D.nos]
  | _ :: _, _ :: _, [], _, _, _ => by simp [zipL3, D.nos]
theorem pi_enm (hg : Gl X "enumerate") (hm : X.mg "enumerate" = none) (hk : X.K = K.fr) (hx : PE X x (tE K W m va)) (hs : notStar x = true) : PI X (.Tuple elts kk tpos) (.Call (.Name "enumerate" p) [x] [] pos) (tI K W (fun δ => ((m δ).bind (vlD va)).bind enumD) view) := by
  refine PI.imp (pi_enumS hg hm (pa_cons hx pa_nil (star_of hs)) (by rw [star_of hs]; rfl)) fun σ H R q => ?_
  obtain ⟨F, δ, g, s, sr, q⟩ := q
  rw [hk]
  refine ⟨F, δ, g, s, sr, (RestI.vlb q).mono fun v H1 q => ?_⟩
  obtain ⟨F1, d, fp, gr, r, n, q⟩ := q
  unfold enumD at q
  split at q
  · rename_i xs ex
    obtain ⟨ds, e, q⟩ := q
    rw [items_tup (nos_enum (items_nos ex))] at e
    cases e
    obtain ⟨S, A, vs, rfl, st, rs, hk, ho⟩ := r.src sr gr n ex
    exact ⟨S, vs, rfl, st, q _ F1 H1 A (Grow.refl gr.fh) (iter_E hk rs) fun _ => ho⟩
  · exact q.elim
theorem Off.app {g : Nat → List Addr} {A B : List Addr} (h : Off g A) (h' : Off g B) : Off g (A ++ B) := fun a ha => by
  rcases List.mem_append.mp ha with ha | ha
  · exact h a ha
  · exact h' a ha
theorem Kept.l {A B : List Addr} {H H' : Hp} (k : Kept (A ++ B) H H') : Kept A H H' := fun a ha => k a (List.mem_append_left _ ha)
theorem Kept.r {A B : List Addr} {H H' : Hp} (k : Kept (A ++ B) H H') : Kept B H H' := fun a ha => k a (List.mem_append_right _ ha)
theorem pi_zp (hg : Gl X "zip") (hm : X.mg "zip" = none) (hk : X.K = K.fr) (hx : PE X x (tE K W m va)) (hy : PE X y (tE K W m2 vb)) (hs : notStar x = true) (hs2 : notStar y = true) :
    PI X (.Tuple elts kk tpos) (.Call (.Name "zip" p) [x, y] [] pos) (tI K W (fun δ => ((m δ).bind (vlD va)).bind fun a => ((m2 δ).bind (vlD vb)).bind fun b => zip2D a b) view) := by
  refine PI.imp (pi_zipS hg hm (pa_cons hx (pa_cons hy pa_nil (star_of hs2)) (star_of hs)) (by rw [star_of hs]) (by rw [star_of hs2]; rfl)) fun σ H R q => ?_
  obtain ⟨F, δ, g, s, sr, q⟩ := q
  rw [hk]
  refine ⟨F, δ, g, s, sr, (RestI.vlb q).mono fun v H1 q => ?_⟩
  obtain ⟨F1, d, fp, gr, r, n, q⟩ := q
  refine ⟨F1, δ, g, gr.fh, sr.grow gr, (RestI.vlb q).mono fun w H2 q => ?_⟩
  obtain ⟨F2, d2, fp2, gr2, r2, n2, q⟩ := q
  have r := gr2.r r
  unfold zip2D at q
  split at q
  · rename_i xs ys ex ey
    obtain ⟨ds, e, q⟩ := q
    rw [items_tup (nos_zip (items_nos ex) (items_nos ey))] at e
    cases e
    obtain ⟨S1, A, vs, rfl, st, rs, hk, ho⟩ := r.src sr (gr.trans gr2) n ex
    obtain ⟨S2, B, ws, rfl, st2, rs2, hk2, ho2⟩ := r2.src (sr.grow gr) gr2 n2 ey
    exact ⟨S1, S2, vs, ws, rfl, st, st2, q _ F2 H2 (A ++ B) (Grow.refl gr2.fh) (iter_P (fun H' k => ⟨hk H' k.l, hk2 H' k.r⟩) rs rs2) fun _ => ho.app ho2⟩
  · exact q.elim
theorem pi_zp3 {z : Expr} {m3 : List D → Res D} {vc : Bool} (hg : Gl X "zip") (hm : X.mg "zip" = none) (hk : X.K = K.fr) (hx : PE X x (tE K W m va)) (hy : PE X y (tE K W m2 vb)) (hz : PE X z (tE K W m3 vc)) (hs : notStar x = true) (hs2 : notStar y = true) (hs3 : notStar z = true) :
    PI X (.Tuple elts kk tpos) (.Call (.Name "zip" p) [x, y, z] [] pos) (tI K W (fun δ => ((m δ).bind (vlD va)).bind fun a => ((m2 δ).bind (vlD vb)).bind fun b => ((m3 δ).bind (vlD vc)).bind fun c => zip3D a b c) view) := by
  refine PI.imp (pi_zipS3 hg hm (pa_cons hx (pa_cons hy (pa_cons hz pa_nil (star_of hs3)) (star_of hs2)) (star_of hs)) (by rw [star_of hs]) (by rw [star_of hs2, star_of hs3]; rfl)) fun σ H R q => ?_
  obtain ⟨F, δ, g, s, sr, q⟩ := q
  rw [hk]
  refine ⟨F, δ, g, s, sr, (RestI.vlb q).mono fun v H1 q => ?_⟩
  obtain ⟨F1, d, fp, gr, r, n, q⟩ := q
  refine ⟨F1, δ, g, gr.fh, sr.grow gr, (RestI.vlb q).mono fun w H2 q => ?_⟩
  obtain ⟨F2, d2, fp2, gr2, r2, n2, q⟩ := q
  refine ⟨F2, δ, g, gr2.fh, sr.grow (gr.trans gr2), (RestI.vlb q).mono fun u H3 q => ?_⟩
  obtain ⟨F3, d3, fp3, gr3, r3, n3, q⟩ := q
  have r := gr3.r (gr2.r r)
  have r2 := gr3.r r2
  unfold zip3D at q
  split at q
  · rename_i xs ys zs ex ey ez
    obtain ⟨ds, e, q⟩ := q
    rw [items_tup (nos_zip3 (items_nos ex) (items_nos ey) (items_nos ez))] at e
    cases e
    obtain ⟨S1, A, vs, rfl, st, rs, hk, ho⟩ := r.src sr (gr.trans (gr2.trans gr3)) n ex
    obtain ⟨S2, B, ws, rfl, st2, rs2, hk2, ho2⟩ := r2.src (sr.grow gr) (gr2.trans gr3) n2 ey
    obtain ⟨S3, C, us, rfl, st3, rs3, hk3, ho3⟩ := r3.src (sr.grow (gr.trans gr2)) gr3 n3 ez
    exact ⟨S1, S2, S3, vs, ws, us, rfl, st, st2, st3, q _ F3 H3 (A ++ (B ++ C)) (Grow.refl gr3.fh) (iter_P3 (fun H' k => ⟨hk H' k.l, hk2 H' k.r.l, hk3 H' k.r.r⟩) rs rs2 rs3) fun _ => ho.app (ho2.app ho3)⟩
  · exact q.elim
/-! range with the step -1 -/
theorem iter_rangeR {lo n : Int} : IterOk K F H (Itc lo (-1) (lo - n).toNat) (rngR lo n) [] := by
  refine ⟨_, _, by unfold rngR; rw [List.length_map, List.length_range]; exact walk_rangeC, fun _ _ => trivial, fun i H1 x H2 hi k ht y => ?_⟩
  obtain ⟨rfl, rfl⟩ := y
  unfold rngR at hi ⊢
  rw [List.length_map, List.length_range] at hi
  exact ⟨.int (lo - i), by rw [List.getElem?_map, List.getElem?_range hi]; rfl, Same.refl _, fun _ _ => by show R _ _ _ (.int (lo + (i : Nat) * (-1 : Int))) _ _; rw [show lo + (i : Nat) * (-1 : Int) = lo - i from by omega]; exact .int _⟩
theorem nos_rngR (lo n : Int) : D.nos (rngR lo n) = true := nos_map _ (fun _ => rfl) _
theorem pe_m1c {c : Expr} {i : Int} {jj : Nat} {p p2 : Pos} (h : c = .UnaryOp .USub (.Constant (.int i) jj p) p2) : PE X c (fun σ H Q => Q (.int (-i)) H) := by
  subst h
  exact PE.imp (pe_un un_neg pe_int) fun σ H Q q => ⟨i, rfl, q⟩
theorem pi_rng3 {c : Expr} {jj : Nat} {p1 p2 : Pos} (hc : c = .UnaryOp .USub (.Constant (.int 1) jj p1) p2) (hg : Gl X "range") (hm : X.mg "range" = none) (hx : PE X x (tE K W m va)) (hy : PE X y (tE K W m2 vb)) (hs : notStar x = true) (hs2 : notStar y = true) : PI X tg (.Call (.Name "range" p) [x, y, c] [] pos) (tI K W (fun δ => (m δ).bind fun a => (m2 δ).bind fun b => rng3D a b) view) := by
  have hs3 : notStar c = true := by subst hc; rfl
  refine PI.imp (pi_range3 hg hm (pa_cons hx (pa_cons hy (pa_cons (pe_m1c hc) pa_nil (star_of hs3)) (star_of hs2)) (star_of hs)) (by rw [star_of hs]) (by rw [star_of hs2, star_of hs3]; rfl)) fun σ H R q => ?_
  obtain ⟨F, δ, g, s, sr, q⟩ := q
  refine ⟨F, δ, g, s, sr, (Rest.bindI q).mono fun v H1 q => ?_⟩
  obtain ⟨F1, d, fp, gr, r, _, q⟩ := q
  refine ⟨F1, δ, g, gr.fh, sr.grow gr, (Rest.bindI q).mono fun w H2 q => ?_⟩
  obtain ⟨F2, d2, fp2, gr2, r2, _, q'⟩ := q
  clear q
  have q := q'
  clear q'
  unfold rng3D at q
  split at q
  · rename_i lo n
    split at q
    · rename_i hn
      obtain ⟨ds, e, q⟩ := q
      rw [items_tup (nos_rngR lo n)] at e
      cases e
      cases r.int_inv
      cases r2.int_inv
      exact ⟨lo, n, -1, _, rfl, RgC.neg (smallI_ok hn.1).1 (smallI_ok hn.1).2 (smallI_ok hn.2).1 (smallI_ok hn.2).2, q _ F2 H2 [] (Grow.refl gr2.fh) iter_rangeR fun _ => off_nil⟩
    · exact q.elim
  · exact q.elim
end
end
end PX

/-! PX, part h: targets; comprehensions. -/
namespace PX
open PySem PySem.Spec PyProof.Rows L2

section
variable {X : Cx} {W : WX} {K : Kx} {σ : L2.St} {F H : Hp} {view : Bool} {Q : VK} {δ : List D} {g : Nat → List Addr}
/-- slot j's boxes -/
def gset (g : Nat → List Addr) (j : Nat) (fp : List Addr) : Nat → List Addr := fun i => if i = j then fp else g i
theorem gset_same {j : Nat} {fp : List Addr} : gset g j fp j = fp := if_pos rfl
theorem gset_ne {i j : Nat} {fp : List Addr} (h : i ≠ j) : gset g j fp i = g i := if_neg h
/-- a slot is set -/
theorem SR.set (s : SR K F H σ δ g) {j : Nat} {v : V} {d : D} {fp : List Addr} (r : R K F H v d fp) (n : ∀ p ∈ fp, ∀ i, i ≠ j → p ∉ g i) : SR K F H (σ.set j (some v)) (δ.set j d) (gset g j fp) := by
  refine ⟨by rw [List.length_set, List.length_set]; exact s.len, fun i e he hd => ?_, fun i k hik p hp hq => ?_, fun i p hp => ?_⟩
  · by_cases hij : j = i
    · subst hij
      have hl : j < δ.length := by
        have := (List.getElem?_eq_some_iff.mp he).1
        simpa using this
      rw [List.getElem?_set_self hl] at he
      cases he
      rw [gset_same, List.getElem?_set_self (by rw [s.len]; exact hl)]
      exact ⟨v, rfl, r⟩
    · rw [List.getElem?_set_ne hij] at he
      rw [gset_ne (fun z => hij z.symm), List.getElem?_set_ne hij]
      exact s.rel i e he hd
  · by_cases h1 : i = j
    · subst h1
      rw [gset_same] at hp
      rw [gset_ne (fun z => hik z.symm)] at hq
      exact n p hp k (fun z => hik z.symm) hq
    · rw [gset_ne h1] at hp
      by_cases h2 : k = j
      · subst h2
        rw [gset_same] at hq
        exact n p hq i h1 hp
      · rw [gset_ne h2] at hq
        exact s.dis i k hik p hp hq
  · by_cases h1 : i = j
    · subst h1
      rw [gset_same] at hp
      exact r.there p hp
    · rw [gset_ne h1] at hp
      exact s.own i p hp
theorem wipe_set {σ : L2.St} {v : Option V} {j : Nat} : ∀ {own : List Nat}, j ∈ own → wipe (σ.set j v) own = wipe σ own
  | w :: ws, h => by
    unfold wipe
    by_cases hw : j ∈ ws
    · rw [wipe_set hw]
    · have e : j = w := by
        rcases List.mem_cons.mp h with e | e
        · exact e
        · exact absurd e hw
      subst e
      refine List.ext_getElem? fun i => ?_
      by_cases hi : j = i
      · subst hi
        rw [List.getElem?_set, List.getElem?_set, wipe_length, wipe_length, List.length_set, if_pos rfl, if_pos rfl]
      · rw [List.getElem?_set_ne hi, List.getElem?_set_ne hi]
        by_cases hm : i ∈ ws
        · exact wipe_in2 hm (by rw [List.length_set])
        · rw [wipe_out hm, wipe_out hm, List.getElem?_set_ne hi]
where
  wipe_in2 {σ τ : L2.St} {i : Nat} : ∀ {ws : List Nat}, i ∈ ws → σ.length = τ.length → (wipe σ ws)[i]? = (wipe τ ws)[i]?
    | w :: ws, h, hl => by
      unfold wipe
      by_cases e : w = i
      · subst e
        rw [List.getElem?_set, List.getElem?_set, wipe_length, wipe_length, hl, if_pos rfl, if_pos rfl]
      · rw [List.getElem?_set_ne e, List.getElem?_set_ne e]
        refine wipe_in2 ?_ hl
        rcases List.mem_cons.mp h with z | z
        · exact absurd z.symm e
        · exact z
theorem wipe_wipe {σ : L2.St} {own : List Nat} : wipe (wipe σ own) own = wipe σ own := by
  refine List.ext_getElem? fun i => ?_
  by_cases hm : i ∈ own
  · exact wipe_set.wipe_in2 hm (wipe_length _ _)
  · rw [wipe_out hm]
theorem wipeD_length : ∀ own : List Nat, (wipeD δ own).length = δ.length
  | [] => rfl
  | v :: vs => by unfold wipeD; rw [List.length_set, wipeD_length vs]
theorem wipeD_some {i : Nat} {d : D} (hd : d ≠ .dead) : ∀ {vs : List Nat}, (wipeD δ vs)[i]? = some d → δ[i]? = some d ∧ i ∉ vs
  | [], h => ⟨h, by simp⟩
  | v :: vs, h => by
    unfold wipeD at h
    by_cases e : v = i
    · subst e
      rw [List.getElem?_set] at h
      rw [if_pos rfl] at h
      split at h
      · cases h; exact absurd rfl hd
      · cases h
    · rw [List.getElem?_set_ne e] at h
      obtain ⟨h1, h2⟩ := wipeD_some hd h
      exact ⟨h1, fun hm => by
        rcases List.mem_cons.mp hm with z | z
        · exact e z.symm
        · exact h2 z⟩
theorem SR.wipe (s : SR K F H σ δ g) (own : List Nat) : SR K F H (L2.wipe σ own) (wipeD δ own) g := by
  refine ⟨by rw [wipe_length, wipeD_length]; exact s.len, fun i d he hd => ?_, s.dis, s.own⟩
  obtain ⟨h1, h2⟩ := wipeD_some hd he
  rw [wipe_out h2]
  exact s.rel i d h1 hd

/-! ### targets -/
def gNms : List Nat → TGs
  | [] => gNil
  | i :: is => gCons (gName i) (gNms is)
def gT (K : PySem.W.Frag) : Tg → TG
  | .nm i => gName i
  | .tp is => gTup K is.length (gNms is)
theorem nms_ok : ∀ {is : List Nat} {vs : List V} {xs : List D} {σ : L2.St} {δ : List D} {g : Nat → List Addr} {Qk : L2.St → Hp → Prop}, SR K F H σ δ g → Rs K F H vs xs [] → vs.length = is.length →
    (∀ σ' g', SR K F H σ' (setAll δ is xs) g' → (∀ own : List Nat, (∀ j ∈ is, j ∈ own) → wipe σ' own = wipe σ own) → (∀ i p, p ∈ g' i → p ∈ g i) → Qk σ' H) → gNms is vs σ H Qk
  | [], [], [], σ, δ, g, Qk, s, _, _, k => ⟨rfl, k σ g s (fun _ _ => rfl) fun _ _ z => z⟩
  | [], _ :: _, _, _, _, _, _, _, _, h, _ => nomatch h
  | _ :: _, [], _, _, _, _, _, _, _, h, _ => nomatch h
  | [], [], _ :: _, _, _, _, _, _, r, _, _ => nomatch r
  | i :: is, v :: vs, [], _, _, _, _, _, r, _, _ => nomatch r
  | i :: is, v :: vs, x :: xs, σ, δ, g, Qk, s, r, h, k => by
    refine ⟨v, vs, rfl, ?_⟩
    have r1 := r.at 0 v x rfl rfl
    have r2 : Rs K F H vs xs [] := r.drop 1
    refine nms_ok (s.set r1 fun p hp => nomatch hp) r2 (by simpa using h) fun σ' g' s' kw kg => ?_
    refine k σ' g' s' (fun own ho => ?_) fun j p hp => ?_
    · rw [kw own fun j hj => ho j (List.mem_cons_of_mem _ hj), wipe_set (ho i (by simp))]
    · have := kg j p hp
      by_cases e : j = i
      · subst e; rw [gset_same] at this; cases this
      · rw [gset_ne e] at this; exact this
theorem tg_ok {tg : Tg} {v : V} {d : D} {δ' : List D} {Qk : L2.St → Hp → Prop} (s : SR K F H σ δ g) (r : R K F H v d []) (e : bindTg tg d δ = some δ')
    (k : ∀ σ' g', SR K F H σ' δ' g' → (∀ own : List Nat, (∀ j ∈ tgL tg, j ∈ own) → wipe σ' own = wipe σ own) → (∀ i p, p ∈ g' i → p ∈ g i) → Qk σ' H) : gT K.fr tg v σ H Qk := by
  cases tg with
  | nm i =>
    have e : (if d.no = true then some (δ.set i d) else none) = some δ' := e
    split at e
    · cases e
      refine k _ _ (s.set r fun p hp => nomatch hp) (fun own ho => wipe_set (ho i (by simp [tgL]))) fun j p hp => ?_
      by_cases e : j = i
      · subst e; rw [gset_same] at hp; cases hp
      · rw [gset_ne e] at hp; exact hp
    · cases e
  | tp is =>
    cases d with
    | tup xs =>
      have e : (if D.nos xs ∧ xs.length = is.length then some (setAll δ is xs) else none) = some δ' := e
      split at e
      · rename_i hn
        cases e
        obtain ⟨a, vs, rfl, ht, hs⟩ := r.tup_inv
        have hl : vs.length = is.length := by rw [hs.length]; exact hn.2
        exact ⟨a, vs, rfl, ht, hl, nms_ok s hs hl k⟩
      · cases e
    | _ => cases e
/-- the names that this code may set -/
def Wr (X : Cx) (sc : Scope) : Prop := ∀ x, locB sc x = true → L2.Loc X.env.scope x ∧ (X.fn x = true ∨ X.env.scope.names.lookup x = some .local)
theorem nm_of {N : List Str} {sc : Scope} {i : Nat} {x : Str} (h : nmB N sc i x = true) : N[i]? = some x ∧ locB sc x = true := by
  obtain ⟨h1, h2⟩ := and_t h
  exact ⟨by simpa using h1, h2⟩
theorem pgs_nms {N : List Str} {sc : Scope} (hN : X.N = N) (nd : N.Nodup) (w : Wr X sc) : ∀ {is : List Nat} {es : List Expr}, nmsB N sc is es = true →
    PGs X es (gNms is) ∧ (assignEach es X.env).length = is.length ∧ (assignEach es X.env).findIdx? (·.1) = none
  | [], [], _ => ⟨pgs_nil, rfl, rfl⟩
  | i :: is, .Name x p :: es, h => by
    obtain ⟨h1, h2⟩ := and_t h
    obtain ⟨h3, h4⟩ := nm_of h1
    obtain ⟨k1, k2, k3⟩ := pgs_nms hN nd w h2
    refine ⟨pgs_cons (pg_name (by rw [hN]; exact nd) (by rw [hN]; exact h3) (w x h4).1 (w x h4).2) k1, ?_, ?_⟩
    · show (assignEach es X.env).length + 1 = _
      rw [k2]
      rfl
    · show ((false, assign (.Name x p) X.env) :: assignEach es X.env).findIdx? (·.1) = none
      rw [List.findIdx?_cons, k3]
      rfl
  | [], _ :: _, h => by unfold nmsB at h; cases h
  | _ :: _, [], h => by unfold nmsB at h; cases h
  | i :: is, e :: es, h => by
    cases e with
    | Name x p =>
      obtain ⟨h1, h2⟩ := and_t h
      obtain ⟨h3, h4⟩ := nm_of h1
      obtain ⟨k1, k2, k3⟩ := pgs_nms hN nd w h2
      refine ⟨pgs_cons (pg_name (by rw [hN]; exact nd) (by rw [hN]; exact h3) (w x h4).1 (w x h4).2) k1, ?_, ?_⟩
      · show (assignEach es X.env).length + 1 = _
        rw [k2]
        rfl
      · show ((false, assign (.Name x p) X.env) :: assignEach es X.env).findIdx? (·.1) = none
        rw [List.findIdx?_cons, k3]
        rfl
    | _ => cases h
theorem pg_tgt {N : List Str} {sc : Scope} {tg : Tg} {t : Expr} (hN : X.N = N) (nd : N.Nodup) (w : Wr X sc) (hc : X.calm = true) (hk : X.K = K.fr) (h : tgB N sc tg t = true) : PG X t (gT K.fr tg) := by
  cases tg with
  | nm i =>
    cases t with
    | Name x p =>
      obtain ⟨h3, h4⟩ := nm_of h
      exact pg_name (by rw [hN]; exact nd) (by rw [hN]; exact h3) (w x h4).1 (w x h4).2
    | _ => cases h
  | tp is =>
    cases t with
    | Tuple es k p =>
      obtain ⟨k1, k2, k3⟩ := pgs_nms hN nd w h
      rw [← hk]
      exact pg_tup hc k1 k2 k3
    | _ => cases h

/-! ### comprehensions -/
theorem pg_tgtH {X : Cx} {x1 : Addr} {oe : Obj} {N : List Str} {sc : Scope} {tg : Tg} {t : Expr} (hN : X.N = N) (nd : N.Nodup) (w : Wr X sc) (z : HotQ X x1 oe) (hk : X.K = K.fr) (h : tgB N sc tg t = true) : PG X t (gT K.fr tg) := by
  cases tg with
  | nm i =>
    cases t with
    | Name x p =>
      obtain ⟨h1, h2⟩ := nm_of h
      have hi : X.N[i]? = some x := by rw [hN]; exact h1
      exact pg_name (by rw [hN]; exact nd) hi (w x h2).1 (w x h2).2
    | _ => cases h
  | tp is =>
    cases t with
    | Tuple es k p =>
      obtain ⟨k1, k2, k3⟩ := pgs_nms (X := X) hN nd w h
      have g := pg_tupH (pos := p) (k := k) z k1 k2 k3
      rw [hk] at g
      exact g
    | _ => cases h
theorem updB_t {H : Hp} {a b : Addr} {o o' : HO} {vs : List V} (h : H a = some o) (n : ∀ ys, o ≠ .tup ys) (q : H b = some (.tup vs)) : upd H a o' b = some (.tup vs) := by
  rw [upd_ne (fun e => by subst e; rw [h] at q; cases q; exact n _ rfl)]
  exact q
theorem updL_t {H : Hp} {a b : Addr} {l l' vs : List V} (h : H a = some (.lst l)) (q : H b = some (.tup vs)) : upd H a (.lst l') b = some (.tup vs) := updB_t h (fun _ z => nomatch z) q
theorem Rs.updL {a : Addr} {l l' vs : List V} {ds : List D} {fp : List Addr} (r : Rs K F H vs ds fp) (h : H a = some (.lst l)) (n : a ∉ fp) : Rs K F (upd H a (.lst l')) vs ds fp :=
  r.mono (Same.refl F) (fun _ _ => updL_t h) fun p hp => ⟨upd_ne fun e => n (e ▸ hp), (r.there p hp).1⟩
theorem lcGo_cons {bnd : D → Option (List D)} {c e : List D → Res D} {x : D} {xs acc ys : List D} (h : lcGo bnd c e view (x :: xs) acc = .ok ys) :
    ∃ δ, bnd x = some δ ∧ ((c δ = .ok (.bl true) ∧ ∃ d, e δ = .ok d ∧ (view = true → d.no = true) ∧ acc.length < sizeLine ∧ lcGo bnd c e view xs (acc ++ [d]) = .ok ys) ∨ (c δ = .ok (.bl false) ∧ lcGo bnd c e view xs acc = .ok ys)) := by
  unfold lcGo at h
  split at h
  · cases h
  · rename_i δ e1
    refine ⟨δ, e1, ?_⟩
    split at h
    · rename_i e2
      refine .inl ⟨e2, ?_⟩
      split at h
      · rename_i d e3
        split at h
        · rename_i hl
          cases e4 : e δ with
          | ok d' =>
            rw [e4] at e3
            obtain ⟨k1, k2⟩ := vl_ok (show vlD view d' = .ok d from e3)
            subst k1
            exact ⟨d, rfl, k2, hl, h⟩
          | exc c fs => rw [e4] at e3; cases e3
          | stuck => rw [e4] at e3; cases e3
        · cases h
      · cases h
    · rename_i e2
      exact .inr ⟨e2, h⟩
    · cases h
def W0 : WX := fun _ _ _ _ => False
theorem lc_ok {own : List Nat} {tg : Tg} {mc me : List D → Res D} {vw : Bool} {xs ys : List D} {J : It} {A : List Addr} (to : tgO own tg = true) (s : Same F H) (sr : SR K F H σ δ g) (it : IterOk K F H J xs A)
    (e : lcGo (fun x => bindTg tg x (wipeD δ own)) mc me vw xs [] = .ok ys) (q : Rest K W σ F H (.ok (.box true .lst ys)) view Q) :
    ∀ Dn, H Dn = none → ∃ Wx : Nat → Nat → Hp → Prop, (∃ m, Wx 0 m (upd H Dn (.lst []))) ∧ ∀ i m H, Wx i m H →
      (J.stop i H ∧ Q (.ref Dn) H) ∨ (J.go i H ∧ ∃ Nx : Hp → Prop, (∀ H', Nx H' → ∃ m', m' < m ∧ Wx (i + 1) m' H') ∧ ∀ x H', J.yld i H x H' → gT K.fr tg x (wipe σ own) H' fun σ2 H2 => wipe σ2 own = wipe σ own ∧ tT K W0 mc σ2 H2 fun b H3 =>
        if b = true then tE K W0 me vw σ2 H3 fun y H4 => ∃ acc, H4 Dn = some (.lst acc) ∧ acc.length < sizeLine ∧ Nx (upd H4 Dn (.lst (acc ++ [y]))) else Nx H3) := by
  intro Dn nD
  obtain ⟨G, Y, w, hG, hY⟩ := it
  refine lc_it w (fun i H' => ∃ F' accV accD fp, Grow F H F' H' ∧ F' Dn = none ∧ H' Dn = some (.lst accV) ∧ Rs K F' H' accV accD fp ∧ Dn ∉ fp ∧ (∀ p ∈ fp, H p = none) ∧ lcGo (fun x => bindTg tg x (wipeD δ own)) mc me vw (xs.drop i) accD = .ok ys)
    ⟨F, [], [], [], Grow.new s nD, not_frozen s nD, upd_same, .nil, (fun z => nomatch z), (fun _ z => nomatch z), e⟩ (fun i H' hi p => ?_) (fun i x H1 H2 hi p y => ?_) (fun H' p => ?_)
  · obtain ⟨F', accV, accD, fp, gr, _⟩ := p
    exact hG H' fun a _ o e => gr.hh a o e
  · obtain ⟨F', accV, accD, fp, gr, nF, hD, rs, nfp, fr, el⟩ := p
    obtain ⟨d, ed, sm, hr⟩ := hY i H1 x H2 hi (fun a _ o e => gr.hh a o e) (fun _ _ => same_tup gr.hh) y
    have dr : xs.drop i = d :: xs.drop (i + 1) := by
      obtain ⟨hl, rfl⟩ := List.getElem?_eq_some_iff.mp ed
      exact List.drop_eq_getElem_cons hl
    rw [dr] at el
    obtain ⟨δ', eb, alt⟩ := lcGo_cons el
    have gr2 : Grow F' H1 F' H2 := ⟨Same.refl F', gr.fh.trans sm, sm, fun _ _ => rfl⟩
    refine tg_ok (((sr.grow (gr.trans gr2)).wipe own)) (hr F' gr.ff) eb fun σ2 g2 s2 kw kg => ⟨?_, ?_⟩
    · rw [kw own fun j hj => by simpa using (List.all_eq_true.mp to j hj), wipe_wipe]
    refine ⟨F', δ', g2, gr2.fh, s2, ?_⟩
    rcases alt with ⟨ec, d', ee, hv, hl, en⟩ | ⟨ec, en⟩
    · rw [ec]
      intro F3 H3 g3
      have gr3 := (gr2.trans g3)
      rw [if_pos rfl]
      refine ⟨F3, δ', g2, g3.fh, s2.grow g3, ?_⟩
      rw [ee]
      intro y F4 H4 fp4 g4 r4 n4
      have n4 := vl_fresh hv r4 n4
      have gr4 := gr3.trans g4
      have hD4 : H4 Dn = some (.lst accV) := gr4.hh _ _ hD
      have rs4 := gr4.rs rs
      have nF4 : F4 Dn = none := (gr4.only Dn (by rw [hD]; simp)).trans nF
      have nd4 : Dn ∉ fp4 := fun z => by
        have := n4 Dn z
        rw [gr3.hh _ _ hD] at this
        cases this
      refine ⟨accV, hD4, by rw [rs.length]; exact hl, F4, accV ++ [y], accD ++ [d'], fp ++ fp4, ?_, nF4, upd_same, ?_, ?_, ?_, en⟩
      · have gg := gr.trans gr4
        refine ⟨gg.ff, fun p o e => ?_, fun p o e => ?_, gg.only⟩
        · rw [upd_ne (fun z => by subst z; rw [nF4] at e; cases e)]
          exact gg.fh p o e
        · rw [upd_ne (fun z => by subst z; rw [nD] at e; cases e)]
          exact gg.hh p o e
      · refine Rs.updL (Rs.app rs4 (Rs.one r4) fun p hp hq => ?_) hD4 fun z => ?_
        · obtain ⟨_, k, o, vs, e, _⟩ := rs.there p hp
          have := n4 p hq
          rw [gr3.hh _ _ e] at this
          cases this
        · rcases List.mem_append.mp z with z | z
          · exact nfp z
          · exact nd4 z
      · intro z
        rcases List.mem_append.mp z with z | z
        · exact nfp z
        · exact nd4 z
      · intro p hp
        rcases List.mem_append.mp hp with z | z
        · exact fr p z
        · exact (gr.trans gr3).fresh (n4 p z)
    · rw [ec]
      intro F3 H3 g3
      have gr3 := (gr2.trans g3)
      rw [if_neg (by simp)]
      exact ⟨F3, accV, accD, fp, gr.trans gr3, (gr3.only Dn (by rw [hD]; simp)).trans nF, gr3.hh _ _ hD, gr3.rs rs, nfp, fr, en⟩
  · obtain ⟨F', accV, accD, fp, gr, nF, hD, rs, nfp, fr, el⟩ := p
    rw [List.drop_length] at el
    unfold lcGo at el
    cases el
    refine q (.ref Dn) F' H' (Dn :: fp) gr (.own (k := .lst) hD (.lst accV) nF rs nfp) fun _ p hp => ?_
    rcases List.mem_cons.mp hp with rfl | hp
    · exact nD
    · exact fr p hp
theorem lcGo_ok {bnd : D → Option (List D)} {c e : List D → Res D} : ∀ {xs acc : List D}, (∃ ys, lcGo bnd c e view xs acc = .ok ys) ∨ lcGo bnd c e view xs acc = .stuck
  | [], acc => .inl ⟨acc, rfl⟩
  | x :: xs, acc => by
    unfold lcGo
    split
    · exact .inr rfl
    · split
      · split
        · split
          · exact lcGo_ok
          · exact .inr rfl
        · exact .inr rfl
      · exact lcGo_ok
      · exact .inr rfl
/-- a comprehension's reading -/
theorem lc_imp {own : List Nat} {tg : Tg} {ms mc me : List D → Res D} {vs vw view : Bool} (to : tgO own tg = true) :
    ∀ σ H Q, tE K W (fun δ => (ms δ).bind fun s => lcD s fun xs => lcGo (fun x => bindTg tg x (wipeD δ own)) mc me vw xs []) view σ H Q → tLc (tI K W ms vs) (gT K.fr tg) (tT K W0 mc) (tE K W0 me vw) own σ H Q := by
  intro σ H Q q
  obtain ⟨F, δ, g, s, sr, q⟩ := q
  refine ⟨F, δ, g, s, sr, ?_⟩
  have q : Rest K W σ F H ((ms δ).bind fun s => lcD s fun xs => lcGo (fun x => bindTg tg x (wipeD δ own)) mc me vw xs []) view Q := q
  cases e : ms δ with
  | stuck => rw [e] at q; exact q
  | exc c fs => rw [e] at q; exact q
  | ok d =>
    rw [e] at q
    have q : Rest K W σ F H (lcD d fun xs => lcGo (fun x => bindTg tg x (wipeD δ own)) mc me vw xs []) view Q := q
    unfold lcD at q
    split at q
    · exact q.elim
    · rename_i xs ei
      have q : Rest K W σ F H ((lcGo (fun x => bindTg tg x (wipeD δ own)) mc me vw xs []).bind fun ys => .ok (.box true .lst ys)) view Q := q
      refine ⟨xs, ei, fun J F' H' A gr it _ => ?_⟩
      rcases lcGo_ok (bnd := fun x => bindTg tg x (wipeD δ own)) (c := mc) (e := me) (view := vw) (xs := xs) (acc := []) with ⟨ys, ey⟩ | ey
      · rw [ey] at q
        exact lc_ok to gr.fh (sr.grow gr) it ey (Rest.grow q gr)
      · rw [ey] at q
        exact q.elim
/-- of a list alone -/
theorem lcl_imp {own : List Nat} {tg : Tg} {ms mc me : List D → Res D} {vs vw view : Bool} (to : tgO own tg = true) :
    ∀ σ H Q, tE K W (fun δ => (ms δ).bind fun s => lclD s fun xs => lcGo (fun x => bindTg tg x (wipeD δ own)) mc me vw xs []) view σ H Q → tLc (iList K.fr (tE K W ms vs)) (gT K.fr tg) (tT K W0 mc) (tE K W0 me vw) own σ H Q := by
  intro σ H Q q
  obtain ⟨F, δ, g, s, sr, q⟩ := q
  refine ⟨F, δ, g, s, sr, (Rest.bind q).mono fun v H1 q => ?_⟩
  obtain ⟨F1, d, fp, gr, r, _, q⟩ := q
  unfold lclD at q
  split at q
  · rename_i o xs
    unfold lcD at q
    split at q
    · exact q.elim
    · rename_i ys ei
      have hn : D.nos xs = true ∧ xs = ys := by
        have ei : (if D.nos xs = true then some xs else none) = some ys := ei
        split at ei
        · rename_i h
          exact ⟨h, Option.some.inj ei⟩
        · cases ei
      obtain ⟨hn, rfl⟩ := hn
      obtain ⟨a, vs, g', rfl, ha, hs, _⟩ := r.lst_inv gr.fh
      refine ⟨a, rfl, ⟨vs, SqL.of ha⟩, ?_⟩
      have q : Rest K W σ F1 H1 ((lcGo (fun x => bindTg tg x (wipeD δ own)) mc me vw xs []).bind fun ys => .ok (.box true .lst ys)) view Q := q
      rcases lcGo_ok (bnd := fun x => bindTg tg x (wipeD δ own)) (c := mc) (e := me) (view := vw) (xs := xs) (acc := []) with ⟨zs, ey⟩ | ey
      · rw [ey] at q
        exact lc_ok to gr.fh (sr.grow gr) (iter_listA (A := [a]) (fun H' k => kept_l (SqL.of ha) k) (hs.nos0 hn)) ey q
      · rw [ey] at q
        exact q.elim
  · exact q.elim
end
end PX

/-! PX, part i: the look is right, for expressions. -/
namespace PX
open PySem PySem.Spec PyProof.Rows L2

section
variable {X : Cx} {W : WX} {K : Kx} {σ : L2.St} {F H : Hp} {view : Bool} {Q : VK}
def RestO (K : Kx) (W : WX) (σ : L2.St) (F H : Hp) (r : Res (Option Int)) (Q : Option Int → Hp → Prop) : Prop :=
  match r with
  | .ok o => ∀ F' H', Grow F H F' H' → Q o H'
  | .exc c fs => ∀ C d F' H', K.ca c = some C → Grow F H F' H' → ExD fs d → W (.ref C) d σ H'
  | .stuck => False
def tP (K : Kx) (W : WX) (m : List D → Res (Option Int)) : TO := fun σ H Q => ∃ F δ g, Same F H ∧ SR K F H σ δ g ∧ RestO K W σ F H (m δ) Q
theorem Rest.bindO {r : Res (Option Int)} {f : Option Int → Res D} (h : Rest K W σ F H (r.bind f) view Q) : RestO K W σ F H r fun o H1 => ∃ F1, Grow F H F1 H1 ∧ Rest K W σ F1 H1 (f o) view Q := by
  cases r with
  | ok o => exact fun F' H' b => ⟨F', b, Rest.grow h b⟩
  | exc c fs => exact h
  | stuck => exact h
theorem RestT.notb {r : Res D} {Q : Bool → Hp → Prop} (h : RestT K W σ F H (r.bind notD) Q) : RestT K W σ F H r fun c H1 => Q (!c) H1 := by
  cases r with
  | ok d => cases d <;> exact h
  | exc c fs => exact h
  | stuck => exact h
theorem RestT.ofBl {r : Res D} {Q : VK} (h : RestT K W σ F H r fun b H1 => Q (.bl b) H1) (vw : Bool) : Rest K W σ F H r vw Q := by
  cases r with
  | ok d =>
    cases d <;> first
      | exact h.elim
      | (intro v F' H' fp gr q n
         cases q.bl_inv
         exact h F' H' gr)
  | exc c fs => exact h
  | stuck => exact h
theorem Rest.strb {k : Res D} {v : V} {x : D} {fp : List Addr} (rx : R K F H v x fp) (h : Rest K W σ F H (strK x k) view Q) : (∃ a, v = .str a) ∧ Rest K W σ F H k view Q := by
  cases x with
  | str a => exact ⟨⟨a, rx.str_inv⟩, h⟩
  | _ => exact h.elim
theorem isi_of {t : Str} (h : isiB t = true) : t = "bool" ∨ t = "str" ∨ t = "list" ∨ t = "tuple" ∨ t = "int" := by
  unfold isiB at h
  simp only [Bool.or_eq_true, beq_iff_eq] at h
  exact h
theorem name_ne {x : Str} (h : x ∈ bltNames) : x ≠ ("__name__" : Str) ∧ (x == ("__debug__" : Str)) = false := by
  have : ∀ y ∈ bltNames, y ≠ ("__name__" : Str) ∧ (y == ("__debug__" : Str)) = false := by decide +kernel
  exact this x h
end

structure Snd (N : List Str) (K : Kx) (k : Nat) (fn : Str → Option (List D → Res D)) (gl : Str → Option D) (e : E) : Prop where
  pe : ∀ {X : Cx} {W : WX} {sc : Scope}, Cok X W N sc K k fn gl → ∀ x, chE N sc e x = true → PE X x (tE K W (ev fn gl e) e.view) ∧ (notIf x = true → PT X x (tT K W (ev fn gl e)))
  pb : ∀ {X : Cx} {W : WX} {sc : Scope}, Cok X W N sc K k fn gl → ∀ op xs pos, chB N sc op e xs = true → PE X (.BoolOp op xs pos) (tE K W (ev fn gl e) e.view) ∧ PW X (.BoolOp op xs pos) (tT K W (ev fn gl e))
  po : ∀ {X : Cx} {W : WX} {sc : Scope}, Cok X W N sc K k fn gl → ∀ x, chP N sc e x = true → PO X x (tP K W fun δ => partOf e.isNon (ev fn gl e δ))
  pa : ∀ {X : Cx} {W : WX} {sc : Scope}, Cok X W N sc K k fn gl → ∀ xs, chEs N sc e xs = true → PA X xs (tA K W (ev fn gl e))
  pk : ∀ {X : Cx} {W : WX} {sc : Scope}, Cok X W N sc K k fn gl → ∀ xs, chKs N sc e xs = true → PA X xs (tK K W (ev fn gl e))
  pc : ∀ {X : Cx} {W : WX} {sc : Scope}, Cok X W N sc K k fn gl → ∀ xs, chC N sc e xs = true → PTs X xs (tT K W (ev fn gl e))
  pi : ∀ {X : Cx} {W : WX} {sc : Scope}, Cok X W N sc K k fn gl → ∀ tg t it, (∀ is, tg = .tp is → ∃ es k p, t = .Tuple es k p) → chI N sc tg e it = true → PI X t it (tI K W (ev fn gl e) e.view)
section
variable {N : List Str} {K : Kx} {k : Nat} {fn : Str → Option (List D → Res D)} {gl : Str → Option D} {e : E}
theorem Snd.ofPE (pe : ∀ {X : Cx} {W : WX} {sc : Scope}, Cok X W N sc K k fn gl → ∀ x, chE N sc e x = true → PE X x (tE K W (ev fn gl e) e.view) ∧ (notIf x = true → PT X x (tT K W (ev fn gl e))))
    (hb : ∀ sc op xs, chB N sc op e xs = false := by intros; rfl) (hp : ∀ sc x, chP N sc e x = false := by intros; rfl) (ha : ∀ sc x, chEs N sc e x = false := by intros; rfl) (hk : ∀ sc x, chKs N sc e x = false := by intros; rfl)
    (hc : ∀ sc x, chC N sc e x = false := by intros; rfl) (hi : ∀ sc tg x, chI N sc tg e x = false := by intros; rfl) : Snd N K k fn gl e where
  pe := pe
  pb := fun _ _ _ _ h => by rw [hb] at h; cases h
  po := fun _ _ h => by rw [hp] at h; cases h
  pa := fun _ _ h => by rw [ha] at h; cases h
  pk := fun _ _ h => by rw [hk] at h; cases h
  pc := fun _ _ h => by rw [hc] at h; cases h
  pi := fun _ _ _ _ _ h => by rw [hi] at h; cases h
theorem Snd.ofPI (pi : ∀ {X : Cx} {W : WX} {sc : Scope}, Cok X W N sc K k fn gl → ∀ tg t it, (∀ is, tg = .tp is → ∃ es k p, t = .Tuple es k p) → chI N sc tg e it = true → PI X t it (tI K W (ev fn gl e) e.view))
    (he : ∀ sc x, chE N sc e x = false := by intros; rfl) (hb : ∀ sc op xs, chB N sc op e xs = false := by intros; rfl) (hp : ∀ sc x, chP N sc e x = false := by intros; rfl) (ha : ∀ sc x, chEs N sc e x = false := by intros; rfl) (hk : ∀ sc x, chKs N sc e x = false := by intros; rfl)
    (hc : ∀ sc x, chC N sc e x = false := by intros; rfl) : Snd N K k fn gl e where
  pe := fun _ _ h => by rw [he] at h; cases h
  pb := fun _ _ _ _ h => by rw [hb] at h; cases h
  po := fun _ _ h => by rw [hp] at h; cases h
  pa := fun _ _ h => by rw [ha] at h; cases h
  pk := fun _ _ h => by rw [hk] at h; cases h
  pc := fun _ _ h => by rw [hc] at h; cases h
  pi := pi

theorem s_loc (i : Nat) : Snd N K k fn gl (.loc i) := by
  refine .ofPE fun {X W sc} c x h => ?_
  cases x with
  | Name y p =>
    obtain ⟨h1, h2⟩ := and_t h
    obtain ⟨h0, h1⟩ := and_t h1
    have h0 : N[i]? = some y := by simpa using h0
    have P : PE X (.Name y p) (tE K W (ev fn gl (.loc i)) (E.view (.loc i))) := by
      refine PE.imp (pe_var (c.ix h0) (c.vis h1) (dbg_of h2).1 (dbg_of h2).2) fun σ H Q q => ?_
      obtain ⟨F, δ, g, s, sr, q⟩ := q
      have q : Rest K W σ F H (match δ[i]? with | some .dead => .stuck | some d => .ok d | none => .stuck) true Q := q
      split at q
      · exact q.elim
      · rename_i d hd e
        obtain ⟨v, ev, r⟩ := sr.rel i d e (fun z => hd (by rw [z]))
        exact ⟨v, ev, q v F H _ (Grow.refl s) r fun z => nomatch z⟩
      · exact q.elim
    exact ⟨P, fun _ => PT.ofPE P rfl⟩
  | _ => cases h
theorem s_int (i : Int) : Snd N K k fn gl (.int i) := by
  refine .ofPE fun {X W sc} c x h => ?_
  cases x with
  | Constant v jj p =>
    cases v with
    | int j =>
      have e : i = j := of_decide_eq_true h
      subst e
      have P : PE X (.Constant (.int i) jj p) (tE K W (ev fn gl (.int i)) (E.view (.int i))) := PE.imp pe_int fun σ H Q q => by
        obtain ⟨F, δ, g, s, sr, q⟩ := q
        exact q.sc s fun _ _ => .int i
      exact ⟨P, fun _ => PT.ofPE P rfl⟩
    | _ => cases h
  | _ => cases h
theorem s_str (i : Str) : Snd N K k fn gl (.str i) := by
  refine .ofPE fun {X W sc} c x h => ?_
  cases x with
  | Constant v jj p =>
    cases v with
    | str j =>
      have e : i = j := of_decide_eq_true h
      subst e
      have P : PE X (.Constant (.str i) jj p) (tE K W (ev fn gl (.str i)) (E.view (.str i))) := PE.imp pe_str fun σ H Q q => by
        obtain ⟨F, δ, g, s, sr, q⟩ := q
        exact q.sc s fun _ _ => .str i
      exact ⟨P, fun _ => PT.ofPE P rfl⟩
    | _ => cases h
  | _ => cases h
theorem s_non : Snd N K k fn gl .non where
  pe := fun {X W sc} c x h => by
    cases x with
    | Constant v jj p =>
      cases v with
      | none =>
        have P : PE X (.Constant .none jj p) (tE K W (ev fn gl .non) (E.view .non)) := PE.imp pe_non fun σ H Q q => by
          obtain ⟨F, δ, g, s, sr, q⟩ := q
          exact q.sc s fun _ _ => .non
        exact ⟨P, fun _ => PT.ofPE P rfl⟩
      | _ => cases h
    | _ => cases h
  pb := fun _ _ _ _ h => by cases h
  po := fun {X W sc} c x h => by
    cases x with
    | none =>
      refine ⟨fun pins s σ H Q I q => po_none.run pins s σ H Q I ?_⟩
      obtain ⟨F, δ, g, s, sr, q⟩ := q
      exact q F H (Grow.refl s)
    | some x => cases h
  pa := fun _ _ h => by cases h
  pk := fun _ _ h => by cases h
  pc := fun _ _ h => by cases h
  pi := fun _ _ _ _ _ h => by cases h
theorem s_bl (b : Bool) : Snd N K k fn gl (.bl b) where
  pe := fun {X W sc} c x h => by
    cases x with
    | Constant v jj p =>
      cases v with
      | bool j =>
        have e : b = j := eq_of_beq h
        subst e
        have P : PE X (.Constant (.bool b) jj p) (tE K W (ev fn gl (.bl b)) (E.view (.bl b))) := PE.imp pe_bl fun σ H Q q => by
          obtain ⟨F, δ, g, s, sr, q⟩ := q
          exact q.sc s fun _ _ => .bl b
        exact ⟨P, fun _ => PT.ofPE P rfl⟩
      | _ => cases h
    | _ => cases h
  pb := fun _ _ _ _ h => by cases h
  po := fun _ _ h => by cases h
  pa := fun _ _ h => by cases h
  pk := fun _ _ h => by cases h
  pc := fun {X W sc} c xs h => by
    cases b with
    | false => cases h
    | true =>
      cases xs with
      | nil =>
        refine ⟨fun pins s σ H Q I q => pts_nil.run pins s σ H Q I ?_⟩
        obtain ⟨F, δ, g, s, sr, q⟩ := q
        exact q F H (Grow.refl s)
      | cons _ _ => cases h
  pi := fun _ _ _ _ _ h => by cases h
theorem s_glb (y : Str) : Snd N K k fn gl (.glb y) := by
  refine .ofPE fun {X W sc} c x h => ?_
  cases x with
  | Name z p =>
    obtain ⟨h1, h2⟩ := and_t h
    have e : y = z := of_decide_eq_true h1
    subst e
    have P : PE X (.Name y p) (tE K W (ev fn gl (.glb y)) (E.view (.glb y))) := by
      cases e : gl y with
      | none =>
        refine ⟨fun pins s σ H Q I q => ?_⟩
        obtain ⟨F, δ, g, s, sr, q⟩ := q
        have q : Rest K W σ F H (.opt (gl y)) false Q := q
        rw [e] at q
        exact q.elim
      | some d =>
        obtain ⟨v, u, e1, rv, r⟩ := c.g.gls y d e
        refine PE.imp (pe_glob (c.glo h2).1 e1 rv (c.glo h2).2.1) fun σ H Q q => ?_
        obtain ⟨F, δ, g, s, sr, q⟩ := q
        have q : Rest K W σ F H (.opt (gl y)) false Q := q
        rw [e] at q
        exact q.sc s (r K.exc)
    exact ⟨P, fun _ => PT.ofPE P rfl⟩
  | _ => cases h
theorem s_bin {o : Bop} {a b : E} (ia : Snd N K k fn gl a) (ib : Snd N K k fn gl b) : Snd N K k fn gl (.bin o a b) := by
  refine .ofPE fun {X W sc} c x h => ?_
  cases x with
  | BinOp x op y p =>
    obtain ⟨h1, h2⟩ := and_t h
    obtain ⟨h2, h3⟩ := and_t h2
    have P : PE X (.BinOp x op y p) (tE K W (ev fn gl (.bin o a b)) (E.view (.bin o a b))) := by
      have ho := op_bin (X := X) h1
      refine PE.imp (pe_op ho (ia.pe c x h2).1 (ib.pe c y h3).1) fun σ H Q q => ?_
      obtain ⟨F, δ, g, s, sr, q⟩ := q
      refine ⟨F, δ, g, s, sr, (Rest.bind q).mono fun v H1 q => ?_⟩
      obtain ⟨F1, x, fp, gr, r, _, q⟩ := q
      refine ⟨F1, δ, g, gr.fh, sr.grow gr, (Rest.bind q).mono fun w H2 q => ?_⟩
      obtain ⟨F2, y, fp2, gr2, r2, _, q⟩ := q
      exact rest_bin gr2.fh (gr2.r r) r2 q
    exact ⟨P, fun _ => PT.ofPE P rfl⟩
  | _ => cases h
theorem s_neg {a : E} (ia : Snd N K k fn gl a) : Snd N K k fn gl (.neg a) := by
  refine .ofPE fun {X W sc} c x h => ?_
  cases x with
  | UnaryOp op x p =>
    cases op with
    | USub =>
      have P : PE X (.UnaryOp .USub x p) (tE K W (ev fn gl (.neg a)) (E.view (.neg a))) := by
        refine PE.imp (pe_un un_neg (ia.pe c x h).1) fun σ H Q q => ?_
        obtain ⟨F, δ, g, s, sr, q⟩ := q
        refine ⟨F, δ, g, s, sr, (Rest.bind q).mono fun v H1 q => ?_⟩
        obtain ⟨F1, x, fp, gr, r, _, q⟩ := q
        cases x with
        | int i => exact ⟨i, r.int_inv, q.sc gr.fh fun _ _ => .int _⟩
        | _ => exact q.elim
      exact ⟨P, fun _ => PT.ofPE P rfl⟩
    | _ => cases h
  | _ => cases h
theorem s_cmp {o : Cop} {a b : E} (ia : Snd N K k fn gl a) (ib : Snd N K k fn gl b) : Snd N K k fn gl (.cmp o a b) := by
  refine .ofPE fun {X W sc} c x h => ?_
  cases x with
  | Compare x ops ys p =>
    cases ops with
    | nil => cases h
    | cons op ops =>
      cases ops with
      | cons _ _ => cases h
      | nil =>
        cases ys with
        | nil => cases h
        | cons y ys =>
          cases ys with
          | cons _ _ => cases h
          | nil =>
            obtain ⟨h1, h2⟩ := and_t h
            obtain ⟨h0, h2⟩ := and_t h2
            obtain ⟨h2, h3⟩ := and_t h2
            have ho := op_cmp (X := X) h1 c.hu
            rw [c.kfr] at ho
            have im : ∀ σ H Q, tE K W (ev fn gl (.cmp o a b)) false σ H Q → tOp (rCmp K.fr o) (tE K W (ev fn gl a) a.view) (tE K W (ev fn gl b) b.view) σ H Q := fun σ H Q q => by
              obtain ⟨F, δ, g, s, sr, q⟩ := q
              refine ⟨F, δ, g, s, sr, (Rest.bind q).mono fun v H1 q => ?_⟩
              obtain ⟨F1, x, fp, gr, r, _, q⟩ := q
              refine ⟨F1, δ, g, gr.fh, sr.grow gr, (Rest.bind q).mono fun w H2 q => ?_⟩
              obtain ⟨F2, y, fp2, gr2, r2, _, q⟩ := q
              exact rest_cmp gr2.fh (gr2.r r) r2 q
            refine ⟨PE.imp (pe_cmpR ho (ia.pe c x h2).1 (ib.pe c y h3).1 (mark_of h0)) im, fun _ => PT.imp (pt_cmpR ho (ia.pe c x h2).1 (ib.pe c y h3).1 (mark_of h0)) fun σ H Q q => ?_⟩
            obtain ⟨F, δ, g, s, sr, q⟩ := q
            exact im σ H _ ⟨F, δ, g, s, sr, q.rest false⟩
  | _ => cases h
section
variable {X : Cx} {W : WX} {sc : Scope}
theorem im_and {a b : E} {ma mb : List D → Res D} {va vb : Bool} : ∀ σ H Q, tE K W (fun δ => (ma δ).bind fun x => cndD x (mb δ) (.ok (.bl false))) vb σ H Q → tAndV (tE K W ma va) (tE K W mb vb) σ H Q := fun σ H Q q => by
  obtain ⟨F, δ, g, s, sr, q⟩ := q
  refine ⟨F, δ, g, s, sr, ((Rest.bindT q).rest va).mono fun v H1 q => ?_⟩
  obtain ⟨d, e, F1, gr, q⟩ := q
  refine ⟨d, e, ?_⟩
  cases d with
  | true =>
    rw [if_pos rfl] at q ⊢
    exact ⟨F1, δ, g, gr.fh, sr.grow gr, q⟩
  | false =>
    rw [if_neg (by simp)] at q ⊢
    exact q.sc gr.fh fun _ _ => .bl _
theorem im_or {ma mb : List D → Res D} {va vb : Bool} : ∀ σ H Q, tE K W (fun δ => (ma δ).bind fun x => cndD x (.ok (.bl true)) (mb δ)) vb σ H Q → tOrV (tE K W ma va) (tE K W mb vb) σ H Q := fun σ H Q q => by
  obtain ⟨F, δ, g, s, sr, q⟩ := q
  refine ⟨F, δ, g, s, sr, ((Rest.bindT q).rest va).mono fun v H1 q => ?_⟩
  obtain ⟨d, e, F1, gr, q⟩ := q
  refine ⟨d, e, ?_⟩
  cases d with
  | true =>
    rw [if_pos rfl] at q ⊢
    exact q.sc gr.fh fun _ _ => .bl _
  | false =>
    rw [if_neg (by simp)] at q ⊢
    exact ⟨F1, δ, g, gr.fh, sr.grow gr, q⟩
theorem im_andT {ma mb : List D → Res D} : ∀ σ H Q, tT K W (fun δ => (ma δ).bind fun x => cndD x (mb δ) (.ok (.bl false))) σ H Q → tAnd (tT K W ma) (tT K W mb) σ H Q := fun σ H Q q => by
  obtain ⟨F, δ, g, s, sr, q⟩ := q
  refine ⟨F, δ, g, s, sr, (RestT.bindT q).mono fun d H1 q => ?_⟩
  obtain ⟨F1, gr, q⟩ := q
  cases d with
  | true =>
    rw [if_pos rfl] at q ⊢
    exact ⟨F1, δ, g, gr.fh, sr.grow gr, q⟩
  | false =>
    rw [if_neg (by simp)] at q ⊢
    exact q F1 H1 (Grow.refl gr.fh)
theorem im_orT {ma mb : List D → Res D} : ∀ σ H Q, tT K W (fun δ => (ma δ).bind fun x => cndD x (.ok (.bl true)) (mb δ)) σ H Q → tOr (tT K W ma) (tT K W mb) σ H Q := fun σ H Q q => by
  obtain ⟨F, δ, g, s, sr, q⟩ := q
  refine ⟨F, δ, g, s, sr, (RestT.bindT q).mono fun d H1 q => ?_⟩
  obtain ⟨F1, gr, q⟩ := q
  cases d with
  | true =>
    rw [if_pos rfl] at q ⊢
    exact q F1 H1 (Grow.refl gr.fh)
  | false =>
    rw [if_neg (by simp)] at q ⊢
    exact ⟨F1, δ, g, gr.fh, sr.grow gr, q⟩
theorem PW.imp {e : Expr} {t t' : TT} (h : PW X e t) (k : ∀ σ H Q, t' σ H Q → t σ H Q) : PW X e t' := ⟨fun wh pins s σ H Q I q => h.run wh pins s σ H Q I (k σ H Q q)⟩
end
theorem s_and {a b : E} (ia : Snd N K k fn gl a) (ib : Snd N K k fn gl b) : Snd N K k fn gl (.and_ a b) := by
  have key : ∀ {X : Cx} {W : WX} {sc : Scope}, Cok X W N sc K k fn gl → ∀ x xs pos, (notIf x && (chE N sc a x && chB N sc .And b xs)) = true → (∃ y r, xs = y :: r) →
      PE X (.BoolOp .And (x :: xs) pos) (tE K W (ev fn gl (.and_ a b)) (E.view (.and_ a b))) ∧ PW X (.BoolOp .And (x :: xs) pos) (tT K W (ev fn gl (.and_ a b))) := fun {X W sc} c x xs pos h hx => by
    obtain ⟨y, r, rfl⟩ := hx
    obtain ⟨h1, h2⟩ := and_t h
    obtain ⟨h2, h3⟩ := and_t h2
    obtain ⟨p1, p2⟩ := ia.pe c x h2
    obtain ⟨b1, b2⟩ := ib.pb c .And _ pos h3
    exact ⟨PE.imp (pe_and p1 b1) (im_and (a := a) (b := b)), PW.imp (pw_and (p2 h1) b2) im_andT⟩
  exact {
    pe := fun {X W sc} c x h => by
      cases x with
      | BoolOp op xs p =>
        cases op with
        | Or => cases xs with
          | nil => cases h
          | cons x xs => cases xs <;> cases h
        | And =>
          cases xs with
          | nil => cases h
          | cons x xs =>
            cases xs with
            | nil => cases h
            | cons y r =>
              obtain ⟨k1, k2⟩ := key c x _ p h ⟨y, r, rfl⟩
              exact ⟨k1, fun _ => k2.pt⟩
      | _ => cases h
    pb := fun {X W sc} c op xs pos h => by
      cases xs with
      | nil => cases h
      | cons x xs =>
        cases xs with
        | nil => cases h
        | cons y r =>
          cases op with
          | And => exact key c x _ pos (and_t h).2 ⟨y, r, rfl⟩
          | Or => cases (and_t h).1
    po := fun _ _ h => by cases h
    pa := fun _ _ h => by cases h
    pk := fun _ _ h => by cases h
    pc := fun _ _ h => by cases h
    pi := fun _ _ _ _ _ h => by cases h }
theorem s_or {a b : E} (ia : Snd N K k fn gl a) (ib : Snd N K k fn gl b) : Snd N K k fn gl (.or_ a b) := by
  have key : ∀ {X : Cx} {W : WX} {sc : Scope}, Cok X W N sc K k fn gl → ∀ x xs pos, (notIf x && (chE N sc a x && chB N sc .Or b xs)) = true → (∃ y r, xs = y :: r) →
      PE X (.BoolOp .Or (x :: xs) pos) (tE K W (ev fn gl (.or_ a b)) (E.view (.or_ a b))) ∧ PW X (.BoolOp .Or (x :: xs) pos) (tT K W (ev fn gl (.or_ a b))) := fun {X W sc} c x xs pos h hx => by
    obtain ⟨y, r, rfl⟩ := hx
    obtain ⟨h1, h2⟩ := and_t h
    obtain ⟨h2, h3⟩ := and_t h2
    obtain ⟨p1, p2⟩ := ia.pe c x h2
    obtain ⟨b1, b2⟩ := ib.pb c .Or _ pos h3
    exact ⟨PE.imp (pe_or p1 b1) im_or, PW.imp (pw_or (p2 h1) b2) im_orT⟩
  exact {
    pe := fun {X W sc} c x h => by
      cases x with
      | BoolOp op xs p =>
        cases op with
        | And => cases xs with
          | nil => cases h
          | cons x xs => cases xs <;> cases h
        | Or =>
          cases xs with
          | nil => cases h
          | cons x xs =>
            cases xs with
            | nil => cases h
            | cons y r =>
              obtain ⟨k1, k2⟩ := key c x _ p h ⟨y, r, rfl⟩
              exact ⟨k1, fun _ => k2.pt⟩
      | _ => cases h
    pb := fun {X W sc} c op xs pos h => by
      cases xs with
      | nil => cases h
      | cons x xs =>
        cases xs with
        | nil => cases h
        | cons y r =>
          cases op with
          | Or => exact key c x _ pos (and_t h).2 ⟨y, r, rfl⟩
          | And => cases (and_t h).1
    po := fun _ _ h => by cases h
    pa := fun _ _ h => by cases h
    pk := fun _ _ h => by cases h
    pc := fun _ _ h => by cases h
    pi := fun _ _ _ _ _ h => by cases h }
theorem s_one {a : E} (ia : Snd N K k fn gl a) : Snd N K k fn gl (.one a) where
  pe := fun _ _ h => by cases h
  pb := fun {X W sc} c op xs pos h => by
    cases xs with
    | nil => cases h
    | cons x xs =>
      cases xs with
      | cons _ _ => cases h
      | nil =>
        obtain ⟨h1, h2⟩ := and_t h
        obtain ⟨p1, p2⟩ := ia.pe c x h2
        refine ⟨pe_one p1, ?_⟩
        cases op with
        | And => exact pw_and1 (p2 h1)
        | Or => exact pw_or1 (p2 h1)
  po := fun {X W sc} c x h => by
    cases x with
    | none => cases h
    | some x =>
      refine ⟨fun pins s σ H Q I q => (po_some (ia.pe c x h).1).run pins s σ H Q I ?_⟩
      obtain ⟨F, δ, g, s, sr, q⟩ := q
      refine ⟨F, δ, g, s, sr, ?_⟩
      have q : RestO K W σ F H (partOf false (ev fn gl a δ)) Q := q
      cases e : ev fn gl a δ with
      | ok d =>
        rw [e] at q
        cases d with
        | int i => exact fun v F' H' fp gr r n => ⟨i, r.int_inv, q F' H' gr⟩
        | _ => exact q.elim
      | exc c fs => rw [e] at q; exact q
      | stuck => rw [e] at q; exact q
  pa := fun _ _ h => by cases h
  pk := fun _ _ h => by cases h
  pc := fun {X W sc} c xs h => by
    cases xs with
    | nil => cases h
    | cons x xs =>
      cases xs with
      | cons _ _ => cases h
      | nil =>
        obtain ⟨h1, h2⟩ := and_t h
        exact pts_one ((ia.pe c x h2).2 h1)
  pi := fun {X W sc} c tg t it ht h => by
    obtain ⟨h1, h2⟩ := and_t h
    exact pi_any (ia.pe c it h2).1 c.kfr
end
end PX

/-! PX, part w: instances, their fields and methods. -/
namespace PX
open PySem PySem.Spec PyProof.Rows L2

section
variable {X : Cx} {W : WX} {K : Kx} {σ : L2.St} {F H : Hp} {view : Bool} {Q : VK}
theorem Rest.bind0 {r : Res D} {f : D → Res D} {va : Bool} (h : Rest K W σ F H (r.bind f) view Q) :
    Rest K W σ F H r va fun v H1 => ∃ F1 x fp, Grow F H F1 H1 ∧ R K F1 H1 v x fp ∧ (va = false → ∀ p ∈ fp, H p = none) ∧ Rest K W σ F H (f x) view Q := by
  cases r with
  | ok d => exact fun v F' H' fp b q n => ⟨F', d, fp, b, q, n, h⟩
  | exc c fs => exact h
  | stuck => exact h
theorem Rest.bindAt {F1 H1 : Hp} {r : Res D} {f : D → Res D} {va : Bool} (h : Rest K W σ F H (r.bind f) view Q) (gr : Grow F H F1 H1) :
    Rest K W σ F1 H1 r va fun v H2 => ∃ F2 x fp, Grow F1 H1 F2 H2 ∧ R K F2 H2 v x fp ∧ Rest K W σ F H (f x) view Q := by
  cases r with
  | ok d => exact fun v F' H' fp b q n => ⟨F', d, fp, b, q, h⟩
  | exc c fs => exact fun C d F' H' e b q => h C d F' H' e (gr.trans b) q
  | stuck => exact h
theorem rest_ixt {F0 H0 : Hp} {v w : V} {x y : D} {f f2 : List Addr} (gr : Grow F0 H0 F H) (r1 : R K F H v x f) (r2 : R K F H w y f2) (n : ∀ p ∈ f, H0 p = none) (q : Rest K W σ F0 H0 (ixtD x y) view Q) : rIx2 K.fr v w H Q := by
  unfold ixtD at q
  split at q
  · rename_i xs i
    obtain ⟨a, vs, rfl, ht, hs⟩ := r1.tup_inv
    have e2 := r2.int_inv
    subst e2
    cases e : L2.atI xs i with
    | none => rw [e] at q; exact q.elim
    | some d =>
      rw [e] at q
      obtain ⟨u, g, e1, r, k⟩ := hs.atI e
      exact .inl (.inr (.inl ⟨a, vs, i, u, rfl, rfl, ht, e1, q u F H g gr r fun _ p hp => n p (k p hp)⟩))
  · exact q.elim
theorem fld_at {f : Str} : ∀ {fs : List (Str × V)} {ds : List D} {d : D} {fp : List Addr}, Rs K F H (fs.map (·.2)) ds fp → fldL f (fs.map (·.1)) ds = some d → ∃ v g, fs.lookup f = some v ∧ f ∈ fs.map (·.1) ∧ R K F H v d g ∧ ∀ p ∈ g, p ∈ fp
  | [], _, _, _, _, e => by unfold fldL at e; cases e
  | (n, v) :: fs, ds, d, fp, h, e => by
    cases h with
    | cons r rs nn =>
      rename_i d0 ds0 f0 g0
      have e : (if n = f then some d0 else fldL f (fs.map (·.1)) ds0) = some d := e
      by_cases hn : n = f
      · rw [if_pos hn] at e
        cases e
        subst hn
        refine ⟨v, f0, by simp [List.lookup], by simp, r, fun p hp => List.mem_append_left _ hp⟩
      · rw [if_neg hn] at e
        obtain ⟨w, g, e1, e2, r1, k1⟩ := fld_at rs e
        refine ⟨w, g, ?_, List.mem_cons_of_mem _ e2, r1, fun p hp => List.mem_append_right _ (k1 p hp)⟩
        have : (f == n) = false := beq_eq_false_iff_ne.mpr fun z => hn z.symm
        rw [List.lookup_cons, this]
        exact e1
/-- an instance -/
theorem R.ob_inv {v : V} {o : Bool} {c : Str} {ns : List Str} {ds : List D} {fp : List Addr} (s : Same F H) (r : R K F H v (.box o (.ob c ns) ds) fp) :
    ∃ a C dx fs f0, v = .ref a ∧ H a = some (.ins C dx fs) ∧ K.ca c = some C ∧ Cls K.fr C ∧ (∀ f ∈ fs.map (·.1), NoAttr K.fr C f) ∧ ns = fs.map (·.1) ∧ Rs K F H (fs.map (·.2)) ds f0 ∧ ∀ p ∈ f0, p ∈ fp := by
  cases r with
  | frz h hs =>
    obtain ⟨o, h1, h2⟩ := h
    cases h2 with
    | ob fs h hc hn => exact ⟨_, _, _, fs, [], rfl, s _ _ h1, h, hc, hn, rfl, hs, fun _ z => nomatch z⟩
  | own h hk n hs na =>
    cases hk with
    | ob fs h2 hc hn => exact ⟨_, _, _, fs, _, rfl, h, h2, hc, hn, rfl, hs, fun p hp => List.mem_cons_of_mem _ hp⟩
theorem cls_ok {v : V} {x : D} {fp : List Addr} {c : Str} {C : Addr} {r0 : Res D} (s : Same F H) (r : R K F H v x fp) (hC : K.ca c = some C) (q : Rest K W σ F H (clsK c x r0) view Q) :
    ∃ a C' dx fs, v = .ref a ∧ H a = some (.ins C' dx fs) ∧ C' = C ∧ (∀ f ∈ fs.map (·.1), NoAttr K.fr C' f) ∧ Rest K W σ F H r0 view Q := by
  unfold clsK at q
  split at q
  · rename_i oo c' ns ds
    split at q
    · rename_i ec
      subst ec
      obtain ⟨a0, C', dx, fs, f0, e0, ha, hca, hcl, hna, hns, rs, sub⟩ := r.ob_inv s
      exact ⟨a0, C', dx, fs, e0, ha, Option.some.inj (hca.symm.trans hC), hna, q⟩
    · exact q.elim
  · exact q.elim
theorem lookup_none {α : Type} {x : Str} : ∀ {l : List (Str × α)}, x ∉ l.map (·.1) → l.lookup x = none
  | [], _ => rfl
  | (y, e) :: r, h => by
    have h1 : x ≠ y := fun z => h (by rw [z]; simp)
    have : (x == y) = false := beq_eq_false_iff_ne.mpr h1
    rw [List.lookup_cons, this]
    exact lookup_none fun z => h (List.mem_cons_of_mem _ z)
/-- a method is no field -/
theorem no_fld {C a : Addr} {m : Str} {fs : List (Str × V)} (mt : Meth K.fr C m a) (hn : ∀ f ∈ fs.map (·.1), NoAttr K.fr C f) : fs.lookup m = none := lookup_none fun z => by
  have h1 := hn m z
  have h2 := mt.at_
  unfold NoAttr at h1
  rw [h1] at h2
  cases h2
end
section
variable {X : Cx} {CX : CXT} {k : Nat} {f C : Addr} {fd : FuncData} {ps : List Str} {sp : Sp} {E : L2.St → XK} {m : Str} {apos pos : Pos} {e o : Expr} {es : List Expr} {ta : TE} {t : TA}
def plOf (o : Expr) (env : Env) : Sem Bool := do return (← importBound o env).getD true
theorem mcall_eq {o : Expr} {m : Str} {apos pos : Pos} {args : List Expr} {env : Env} (hb : attributeBase o m env (eval o env) = eval o env)
    (hf : ((backTo pos (starEach args env)).all (fun x => !x.1) && (backToKw pos (keywordEach [] env)).all (fun x => x.1.isSome) && decide (args.length + ([] : List Keyword).length + (if ([] : List Keyword).isEmpty then 0 else 1) < 30)) = true) (hl : (apos.endLine == pos.line) = true) :
    eval (.Call (.Attribute o m apos) args [] pos) env = (do
      let ov ← eval o env
      standAt apos.atName
      let (f, first) ← holding [ov] (getMethod ov m (plOf o env))
      callWith pos f first (backTo pos (starEach args env)) (backToKw pos (keywordEach [] env))) := by
  have hform : methodCallForm (args.length + ([] : List Keyword).length) (backTo pos (starEach args env)) (backToKw pos (keywordEach [] env)) = true := hf
  have hpos : methodCallPos true o env apos pos = pure pos := by unfold methodCallPos; simp [hl]
  rw [arm_eval_Call, hb]
  unfold methodCall
  rw [hform]
  rw [hpos]
  simp only [pure_bind]
  rfl
def tMethS2 (C : Addr) (m : Str) (sp : Sp) (E : L2.St → XK) (ta : TE) (t : TA) : TE := fun σ H Q => ta σ H fun x H1 => ∃ a dx fs, x = .ref a ∧ H1 a = some (.ins C dx fs) ∧ fs.lookup m = none ∧
  t σ H1 fun vs H2 => sp (x :: vs) H2 Q (E σ)
/-- o.m(e, ..), exceptions told by the slots -/
theorem pe_methS2 {pl : Sem Bool} (he : PE X o ta) (c : Cls X.K C) (hm : Meth X.K C m f) (F : FnOk X.prog X.w X.K X.mg X.base CX k f fd ps sp) (hr : Room k X.A) (hb : Binds X.K fd ps []) (hx : ∀ σ, PassesAt CX X σ (E σ)) (ha : PA X (e :: es) t)
    (hst : starEach (e :: es) X.env = (false, eval e X.env) :: starEach es X.env) (hpl : (backTo pos (starEach es X.env)).any (·.1) = false)
    (ht : eval (.Call (.Attribute o m apos) (e :: es) [] pos) X.env = (do
      let ov ← eval o X.env
      standAt apos.atName
      let (f, first) ← holding [ov] (getMethod ov m pl)
      callWith pos f first (backTo pos (starEach (e :: es) X.env)) (backToKw pos (keywordEach [] X.env)))) :
    PE X (.Call (.Attribute o m apos) (e :: es) [] pos) (tMethS2 C m sp E ta t) := by
  refine ⟨fun pins s σ H Q I h => ?_⟩
  refine PySem.W.methodCall_KW (pl := pl) (thn (he.run pins s σ H _ I h) fun u s1 ⟨x, H1, I1, rx, a, dx, fs, ex, ea, l, q⟩ => ?_) ht
  subst ex
  obtain rfl : u = Value.ref a := rx
  refine getmeth_ok I1 ea c hm l ?_
  refine PySem.W.callWith_K (first := [.ref a]) (h₀ := X.base) I.ok.mod.kin hm.kp (thn (ha.run pos pins s1 σ H1 _ I1 q) fun us s2 ⟨vs, H2, I2, r, q2⟩ => ⟨I2.kIn, ?_⟩) hst hpl
  exact run_fnS (us := .ref a :: us) (vs := .ref a :: vs) F hr hb (hx σ) I2 (.cons rfl r) q2
/-- o.m() -/
theorem pe_methS20 {pl : Sem Bool} (he : PE X o ta) (c : Cls X.K C) (hm : Meth X.K C m f) (F : FnOk X.prog X.w X.K X.mg X.base CX k f fd ps sp) (hr : Room k X.A) (hb : Binds X.K fd ps []) (hx : ∀ σ, PassesAt CX X σ (E σ))
    (ht : eval (.Call (.Attribute o m apos) [] [] pos) X.env = (do
      let ov ← eval o X.env
      standAt apos.atName
      let (f, first) ← holding [ov] (getMethod ov m pl)
      callWith pos f first (backTo pos (starEach [] X.env)) (backToKw pos (keywordEach [] X.env)))) :
    PE X (.Call (.Attribute o m apos) [] [] pos) (tMethS2 C m sp E ta tNil) := by
  refine ⟨fun pins s σ H Q I h => ?_⟩
  refine PySem.W.methodCall_KW (pl := pl) (thn (he.run pins s σ H _ I h) fun u s1 ⟨x, H1, I1, rx, a, dx, fs, ex, ea, l, q⟩ => ?_) ht
  subst ex
  obtain rfl : u = Value.ref a := rx
  refine getmeth_ok I1 ea c hm l ?_
  exact PySem.W.callWith_K0 (first := [.ref a]) I1.kIn hm.kp (run_fnS (us := [.ref a]) (vs := [.ref a]) F hr hb (hx σ) I1 (.cons rfl .nil) q)
end
section
variable {N : List Str} {K : Kx} {k : Nat} {fn : Str → Option (List D → Res D)} {gl : Str → Option D} {e : E}
theorem s_fl {f : Str} : Snd N K k fn gl (.fl f) := .ofPE fun {X W sc} c x h => by cases x <;> cases h
theorem s_fld {a : E} {f : Str} (ia : Snd N K k fn gl a) : Snd N K k fn gl (.fld a f) := by
  refine .ofPE fun {X W sc} c x h => ?_
  cases x with
  | Attribute x g p =>
    obtain ⟨h1, h2⟩ := and_t h
    obtain ⟨h2, h3⟩ := and_t h2
    have e : f = g := of_decide_eq_true h1
    subst e
    have P : PE X (.Attribute x f p) (tE K W (ev fn gl (.fld a f)) (E.view (.fld a f))) := by
      refine PE.imp (pe_fld (ia.pe c x h3).1 (base_of h2)) fun σ H Q q => ?_
      rw [c.kfr]
      obtain ⟨F, δ, g, s, sr, q⟩ := q
      refine ⟨F, δ, g, s, sr, (Rest.bind0 (va := a.view) q).mono fun v H1 q => ?_⟩
      obtain ⟨F1, x, fp, gr, r, n, q⟩ := q
      unfold fldD at q
      split at q
      · rename_i o cc ns ds
        obtain ⟨ad, C, dx, fs, f0, rfl, ha, hca, hcl, hna, rfl, rs, sub⟩ := r.ob_inv gr.fh
        cases ef : fldL f (fs.map (·.1)) ds with
        | none => rw [ef] at q; exact q.elim
        | some d =>
          rw [ef] at q
          obtain ⟨w, g1, e1, e2, r1, k1⟩ := fld_at rs ef
          exact ⟨ad, C, dx, fs, w, rfl, ha, hcl, hna f e2, e1, q w F1 H1 g1 gr r1 fun z p hp => n z p (sub p (k1 p hp))⟩
      · exact q.elim
    exact ⟨P, fun _ => PT.ofPE P rfl⟩
  | _ => cases h
theorem s_ixt {a b : E} (ia : Snd N K k fn gl a) (ib : Snd N K k fn gl b) : Snd N K k fn gl (.ixt a b) := by
  refine .ofPE fun {X W sc} c x h => ?_
  cases x with
  | Subscript x y p =>
    obtain ⟨h0, h1⟩ := and_t h
    obtain ⟨h1, h2⟩ := and_t h1
    obtain ⟨h2, h3⟩ := and_t h2
    have h0 : a.view = false := by simpa using h0
    have P : PE X (.Subscript x y p) (tE K W (ev fn gl (.ixt a b)) (E.view (.ixt a b))) := by
      have hr := ix_all (X := X) (by have := c.hu; omega)
      rw [c.kfr] at hr
      refine PE.imp (pe_ix hr (ia.pe c x h2).1 (ib.pe c y h3).1 (slice_of h1)) fun σ H Q q => ?_
      obtain ⟨F, δ, g, s, sr, q⟩ := q
      refine ⟨F, δ, g, s, sr, (Rest.bind0 (va := a.view) q).mono fun v H1 q => ?_⟩
      obtain ⟨F1, x, fp, gr, r, n, q⟩ := q
      refine ⟨F1, δ, g, gr.fh, sr.grow gr, (Rest.bindAt (va := b.view) q gr).mono fun w H2 q => ?_⟩
      obtain ⟨F2, y, fp2, gr2, r2, q⟩ := q
      exact rest_ixt (gr.trans gr2) (gr2.r r) r2 (n h0) q
    exact ⟨P, fun _ => PT.ofPE P rfl⟩
  | _ => cases h
theorem backs {sc : Scope} {pos : Pos} {env : Env} : ∀ {es : E} {xs : List Expr}, chEs N sc es xs = true → (backTo pos (starEach xs env)).any (·.1) = false
  | es, [], _ => rfl
  | es, x :: xs, h => by
    cases es with
    | cons a r =>
      obtain ⟨h1, h2⟩ := and_t h
      obtain ⟨h2, h3⟩ := and_t h2
      rw [star_of h1]
      show (false || (backTo pos (starEach xs env)).any (·.1)) = false
      rw [backs h3]
      rfl
    | _ => cases h
theorem chEs_cons {sc : Scope} {es : E} {x : Expr} {xs : List Expr} (h : chEs N sc es (x :: xs) = true) : notStar x = true ∧ ∃ r, chEs N sc r xs = true := by
  cases es with
  | cons a r =>
    obtain ⟨h1, h2⟩ := and_t h
    exact ⟨h1, r, (and_t h2).2⟩
  | _ => cases h
theorem argsS {sc : Scope} {X : Cx} {es : E} {x : Expr} {xs : List Expr} {pos : Pos} (h : chEs N sc es (x :: xs) = true) : starEach (x :: xs) X.env = (false, eval x X.env) :: starEach xs X.env ∧ (backTo pos (starEach xs X.env)).any (·.1) = false := by
  obtain ⟨hs, r, hr⟩ := chEs_cons h
  exact ⟨star_of hs, backs hr⟩
theorem argsF {sc : Scope} {env : Env} {pos : Pos} : ∀ {es : E} {xs : List Expr}, chEs N sc es xs = true → (backTo pos (starEach xs env)).all (fun x => !x.1) = true
  | es, [], _ => rfl
  | es, x :: xs, h => by
    cases es with
    | cons a r =>
      obtain ⟨h1, h2⟩ := and_t h
      obtain ⟨h2, h3⟩ := and_t h2
      rw [star_of h1]
      show (true && (backTo pos (starEach xs env)).all (fun x => !x.1)) = true
      rw [argsF h3]
      rfl
    | _ => cases h
theorem few_of {xs : List Expr} {env : Env} {p : Pos} (h : (backTo p (starEach xs env)).all (fun x => !x.1) = true) (hl : xs.length < 29) : ((backTo p (starEach xs env)).all (fun x => !x.1) && (backToKw p (keywordEach [] env)).all (fun x => x.1.isSome) && decide (xs.length + ([] : List Keyword).length + (if ([] : List Keyword).isEmpty then 0 else 1) < 30)) = true := by
  rw [h]
  have h30 : decide (xs.length + ([] : List Keyword).length + (if ([] : List Keyword).isEmpty then 0 else 1) < 30) = true := decide_eq_true (by simp; omega)
  rw [h30]
  rfl
theorem s_meth (hK : K.exc = none) {cc m : Str} {o a : E} (io : Snd N K k fn gl o) (ia : Snd N K k fn gl a) : Snd N K k fn gl (.meth cc m o a) := by
  refine .ofPE fun {X W sc} c x h => ?_
  cases x with
  | Call fe xs kws p =>
    cases fe with
    | Attribute ob n ap =>
      cases kws with
      | cons _ _ => cases xs <;> cases h
      | nil =>
        have P : PE X (.Call (.Attribute ob n ap) xs [] p) (tE K W (ev fn gl (.meth cc m o a)) (E.view (.meth cc m o a))) := by
          obtain ⟨ha1, h2⟩ := and_t h
          obtain ⟨h1, ha2⟩ := and_t ha1
          obtain ⟨h3, _⟩ := and_t ha2
          clear ha1 ha2 h
          have e : m = n := of_decide_eq_true h3
          subst e
          obtain ⟨hl, h2⟩ := and_t h2
          obtain ⟨hn, h2⟩ := and_t h2
          obtain ⟨hc, h2⟩ := and_t h2
          obtain ⟨ho, hx⟩ := and_t h2
          have eq := mcall_eq (base_of (n := m) (env := X.env) hc) (few_of (p := p) (argsF (env := X.env) hx) (of_decide_eq_true hn)) hl
          cases ef : fn (keyM cc m) with
          | none =>
            refine ⟨fun pins s σ H Q I q => ?_⟩
            obtain ⟨F, δ, g, s, sr, q⟩ := q
            have q : Rest K W σ F H (match fn (keyM cc m) with | none => .stuck | some F => (ev fn gl o δ).bind fun x => clsK cc x ((ev fn gl a δ).bind fun y => lend F (x :: unT y))) false Q := q
            rw [ef] at q
            exact q.elim
          | some Fn =>
            obtain ⟨C, ad, fd, ps, A⟩ := c.g.mts hK cc m Fn h1 ef
            have ok := A.ok
            have cl := A.cl
            have mt := A.mt
            have bd := A.bd
            have rd : ∀ (t : TA), (∀ σ H Q, tA K W (ev fn gl a) σ H Q → t σ H Q) → ∀ σ H Q, tE K W (ev fn gl (.meth cc m o a)) false σ H Q → tMethS2 C m (spF K Fn) (WE W) (tE K W (ev fn gl o) o.view) t σ H Q := fun t ht σ H Q q => by
              obtain ⟨F, δ, g, s, sr, q⟩ := q
              have q : Rest K W σ F H (match fn (keyM cc m) with | none => .stuck | some F => (ev fn gl o δ).bind fun x => clsK cc x ((ev fn gl a δ).bind fun y => lend F (x :: unT y))) false Q := q
              rw [ef] at q
              refine ⟨F, δ, g, s, sr, (Rest.bind (va := o.view) q).mono fun v H1 q1 => ?_⟩
              clear q
              obtain ⟨F1, x, fp, gr, r, _, q2⟩ := q1
              obtain ⟨a0, C', dx, fs, rfl, ha, ec, hna, q3⟩ := cls_ok gr.fh r A.ca q2
              subst ec
              refine ⟨a0, dx, fs, rfl, ha, no_fld mt hna, ht _ _ _ ⟨F1, δ, g, gr.fh, sr.grow gr, (Rest.bindA q3).mono fun vs H2 q4 => ?_⟩⟩
              obtain ⟨F2, y, gr2, rv, q5⟩ := q4
              exact rest_call gr2.fh (.cons (gr2.r r) rv) q5
            rw [← c.kfr] at cl mt bd ok
            cases xs with
            | nil =>
              cases a with
              | nil =>
                refine PE.imp (pe_methS20 (apos := ap) (pos := p) (pl := plOf ob X.env) (io.pe c ob ho).1 cl mt ok (c.rm hK) bd (fun σ => L2N.passAt c.tk σ) ?_) (rd tNil fun σ H Q q => ?_)
                · exact eq
                · obtain ⟨F, δ, g, s, sr, q⟩ := q
                  exact q [] F H (Grow.refl s) .nil
              | _ => cases hx
            | cons x xs =>
              obtain ⟨st, bk⟩ := argsS (X := X) (pos := p) hx
              refine PE.imp (pe_methS2 (apos := ap) (pos := p) (pl := plOf ob X.env) (io.pe c ob ho).1 cl mt ok (c.rm hK) bd (fun σ => L2N.passAt c.tk σ) (ia.pa c _ hx) st bk eq) (rd _ fun σ H Q q => q)
        exact ⟨P, fun _ => PT.ofPE P rfl⟩
    | _ => cases xs <;> cases kws <;> first | (cases h; done) | (rename_i a1 a2; cases a2 <;> cases h)
  | _ => cases h
theorem TrI.grow0 {F H F' H' : Hp} {gp : List Addr} (t : TrI F H [] F' H' gp) : Grow F H F' H' :=
  ⟨t.ff, t.fh, fun p o e => t.hh p (fun z => nomatch z) o e, fun p n => t.only p (fun z => nomatch z) n⟩
theorem s_new (hK : K.exc = none) {cc : Str} {a : E} (ia : Snd N K k fn gl a) : Snd N K k fn gl (.new cc a) := by
  refine .ofPE fun {X W sc} c x h => ?_
  cases x with
  | Call fe xs kws p =>
    cases fe with
    | Name g p0 =>
      cases xs with
      | nil => cases h
      | cons x xs =>
        cases kws with
        | cons _ _ => cases h
        | nil =>
          obtain ⟨h1, h2⟩ := and_t h
          obtain ⟨h2, h3⟩ := and_t h2
          obtain ⟨hb, h1⟩ := and_t h1
          obtain ⟨h0, h1⟩ := and_t h1
          have h0 : cc ≠ Str.empty := by simpa using h0
          have e : cc = g := of_decide_eq_true h1
          subst e
          have P : PE X (.Call (.Name cc p0) (x :: xs) [] p) (tE K W (ev fn gl (.new cc a)) (E.view (.new cc a))) := by
            cases ef : fn (keyX cc "__init__") with
            | none =>
              refine ⟨fun pins s σ H Q I q => ?_⟩
              obtain ⟨F, δ, g, s, sr, q⟩ := q
              have q : Rest K W σ F H (match fn (keyX cc "__init__") with | none => .stuck | some F => (ev fn gl a δ).bind fun x => newD F cc (unT x)) false Q := q
              rw [ef] at q
              exact q.elim
            | some Fn =>
              obtain ⟨C, ad, fd, ps, A⟩ := c.g.mks hK cc Fn hb h0 ef
              obtain ⟨st, bk⟩ := argsS (X := X) (pos := p) h3
              have ok := A.ok
              have mr := A.mr
              have cl := A.cl
              have bd := A.bd
              rw [← c.kfr] at ok mr bd
              refine PE.imp (pe_make (E := fun _ _ _ => False) (dvs := []) (ds := []) mr ok (c.rm hK) (c.glo h2).1 A.at_ bd .nil ?_ (ia.pa c _ h3) (c.glo h2).2.1 st bk) fun σ H Q q => ?_
              · rintro pins σ H s e s' I ⟨_, _, _, _, _, _, _, _, _, _, _, _, z⟩
                exact z.elim
              obtain ⟨F, δ, g, s, sr, q⟩ := q
              have q : Rest K W σ F H (match fn (keyX cc "__init__") with | none => .stuck | some F => (ev fn gl a δ).bind fun x => newD F cc (unT x)) false Q := q
              rw [ef] at q
              refine ⟨F, δ, g, s, sr, (Rest.bindA q).mono fun vs H1 q => ?_⟩
              obtain ⟨F1, d, gr, rv, q⟩ := q
              intro x dx nx ndx nex
              have s1 := gr.fh
              generalize eH : upd (upd H1 dx (.own x)) x (.ins C dx []) = H2
              have h2x : H2 x = some (.ins C dx []) := by rw [← eH]; exact upd_same
              have hh : Same H1 H2 := fun p o e => by
                rw [← eH, upd_ne (fun z => by subst z; rw [nx] at e; cases e), upd_ne (fun z => by subst z; rw [ndx] at e; cases e)]
                exact e
              rw [List.append_nil]
              have hob : ∀ {F0 : Hp}, F0 x = none → R K F0 H2 (.ref x) (.box true (.ob cc []) []) [x] := fun n => .own (k := .ob cc []) h2x (.ob (fs := []) A.ca cl fun _ z => nomatch z) n .nil fun z => nomatch z
              unfold newD at q
              split at q
              · rename_i hn
                have g12 : Grow F1 H1 F1 H2 := ⟨Same.refl F1, s1.trans hh, hh, fun _ _ => rfl⟩
                refine ⟨F1, .box true (.ob cc []) [] :: unT d, [x] ++ [], s1.trans hh, .cons (hob (not_frozen s1 nx)) (g12.rs (rv.rs hn)) (fun _ _ z => nomatch z), ?_⟩
                generalize Fn (.box true (.ob cc []) [] :: unT d) = r at q
                unfold newR at q
                split at q
                · rename_i sd bs
                  intro v F' H' fd gp t rs rn dj
                  have : v = .non := rn.non_inv
                  refine ⟨this, ?_⟩
                  cases rs with
                  | cons r0 rr nn =>
                    rename_i f0 g0
                    refine q (.ref x) F' H' f0 ⟨t.ff, t.fh, fun p o e => t.hh p (fun z => ?_) o (hh _ _ e), fun p n => t.only p (fun z => ?_) fun z => ?_⟩ r0 fun _ p hp => ?_
                    · rw [List.append_nil, List.mem_singleton] at z
                      subst z
                      rw [nx] at e
                      cases e
                    · rw [List.append_nil, List.mem_singleton] at z
                      subst z
                      exact n nx
                    · exact some_of_same hh n z
                    · rcases t.new p (List.mem_append_right _ (List.mem_append_left _ hp)) with z | z
                      · rw [List.append_nil, List.mem_singleton] at z
                        subst z
                        exact nx
                      · cases e : H1 p with
                        | none => rfl
                        | some o => rw [hh _ _ e] at z; cases z
                · rename_i n1
                  exact q.elim
              · rename_i hn
                have g12 : Grow H1 H1 H1 H2 := ⟨Same.refl H1, hh, hh, fun _ _ => rfl⟩
                refine ⟨H1, .box true (.ob cc []) [] :: D.frzs (unT d), [x] ++ [], hh, .cons (hob nx) (g12.rs (rv.lent s1)) (fun _ _ z => nomatch z), ?_⟩
                generalize Fn (.box true (.ob cc []) [] :: D.frzs (unT d)) = r at q
                unfold newR at q
                split at q
                · rename_i d0 e0
                  split at q
                  · rename_i hf
                    split at e0
                    · rename_i sd bs
                      cases e0
                      intro v F' H' fd gp t rs rn dj
                      refine ⟨rn.non_inv, ?_⟩
                      cases rs with
                      | cons r0 rr nn =>
                        rename_i f0 g0
                        have nw : ∀ p ∈ f0, H1 p = none := fun p hp => by
                          rcases t.new p (List.mem_append_right _ (List.mem_append_left _ hp)) with z | z
                          · rw [List.append_nil, List.mem_singleton] at z
                            subst z
                            exact nx
                          · cases e : H1 p with
                            | none => rfl
                            | some o => rw [hh _ _ e] at z; cases z
                        have hx : ∀ p, H1 p ≠ none → p ∉ [x] ++ [] := fun p n z => by
                          rw [List.append_nil, List.mem_singleton] at z
                          subst z
                          exact n nx
                        have hk : Same H1 H' := fun p o e => t.hh p (hx p (by rw [e]; simp)) o (hh _ _ e)
                        exact q (.ref x) F1 H' f0 ⟨Same.refl F1, s1.trans hk, hk, fun _ _ => rfl⟩ (r0.unlend hf fun p hp => not_frozen s1 (nw p hp)) fun _ => nw
                    · cases e0
                  · exact q.elim
                · rename_i hne
                  split at q
                  · rename_i sd bs e0
                    exact absurd rfl (hne _)
                  · exact q.elim
          exact ⟨P, fun _ => PT.ofPE P rfl⟩
    | _ => cases h
  | _ => cases h
theorem s_dcp (hK : K.exc = none) {a : E} (ia : Snd N K k fn gl a) : Snd N K k fn gl (.dcp a) := by
  refine .ofPE fun {X W sc} c x h => ?_
  cases x with
  | Call fe xs kws p =>
    cases fe with
    | Name g p0 =>
      cases xs with
      | nil => cases h
      | cons x xs =>
        cases xs with
        | cons _ _ => cases h
        | nil =>
          cases kws with
          | cons _ _ => cases h
          | nil =>
            obtain ⟨h1, h2⟩ := and_t h
            obtain ⟨h2, h3⟩ := and_t h2
            obtain ⟨h3, h4⟩ := and_t h3
            have e : g = "dict" := of_decide_eq_true h1
            subst e
            have P : PE X (.Call (.Name "dict" p0) [x] [] p) (tE K W (ev fn gl (.dcp a)) (E.view (.dcp a))) := by
              refine PE.imp (pe_callTy call_dictD (c.glo h2).1 (c.mem (by decide)) (by decide +kernel) (pa_cons (ia.pe c x h4).1 pa_nil (star_of h3)) (by decide) (by decide) (star_of h3) rfl) fun σ H Q q => ?_
              obtain ⟨F, δ, g, s, sr, q⟩ := q
              refine ⟨F, δ, g, s, sr, (Rest.bind (va := a.view) q).mono fun v H1 q => ?_⟩
              obtain ⟨F1, x, fp, gr, r, _, q⟩ := q
              unfold dcpD at q
              split at q
              · rename_i o ks ds
                split at q
                · rename_i hn
                  obtain ⟨ad, kvs, g0, rfl, ha, rfl, hs, sub⟩ := r.dk_inv gr.fh
                  exact ⟨ad, kvs, rfl, .inl ha, fun p0 hp => q _ F1 _ [p0] (Grow.new gr.fh hp) (.own upd_same (.dk kvs) (not_frozen gr.fh hp) ((Grow.new gr.fh hp).rs (hs.nos0 hn)) fun z => nomatch z) fun _ a0 ha0 => by
                    rw [List.mem_singleton.mp ha0]
                    exact hp⟩
                · exact q.elim
              · exact q.elim
            exact ⟨P, fun _ => PT.ofPE P rfl⟩
    | _ => cases xs <;> first | (cases h; done) | (rename_i z1 z2; cases z2 <;> cases kws <;> cases h)
  | _ => cases h
end
end PX

/-! PX, part j: the look is right, for expressions, the rest. -/
namespace PX
open PySem PySem.Spec PyProof.Rows L2

section
variable {N : List Str} {K : Kx} {k : Nat} {fn : Str → Option (List D → Res D)} {gl : Str → Option D} {e : E}
theorem s_not {a : E} (ia : Snd N K k fn gl a) : Snd N K k fn gl (.not_ a) := by
  refine .ofPE fun {X W sc} c x h => ?_
  cases x with
  | UnaryOp op x p =>
    cases op with
    | Not =>
      obtain ⟨h1, h2⟩ := and_t h
      obtain ⟨p1, p2⟩ := ia.pe c x h2
      refine ⟨PE.imp (pe_not p1) fun σ H Q q => ?_, fun _ => PT.imp (pt_not (p2 h1)) fun σ H Q q => ?_⟩
      · obtain ⟨F, δ, g, s, sr, q⟩ := q
        refine ⟨F, δ, g, s, sr, (Rest.bind q).mono fun v H1 q => ?_⟩
        obtain ⟨F1, x, fp, gr, r, _, q⟩ := q
        cases x with
        | bl b => exact ⟨b, r.bl_inv, q.sc gr.fh fun _ _ => .bl _⟩
        | _ => exact q.elim
      · obtain ⟨F, δ, g, s, sr, q⟩ := q
        exact ⟨F, δ, g, s, sr, RestT.notb q⟩
    | _ => cases h
  | _ => cases h
theorem s_ite {t a b : E} (it : Snd N K k fn gl t) (ia : Snd N K k fn gl a) (ib : Snd N K k fn gl b) : Snd N K k fn gl (.ite t a b) := by
  refine .ofPE fun {X W sc} c x h => ?_
  cases x with
  | IfExp x y z p =>
    obtain ⟨h1, h2⟩ := and_t h
    obtain ⟨h0, h1⟩ := and_t h1
    obtain ⟨h2, h3⟩ := and_t h2
    refine ⟨PE.imp (pe_ifExp ((it.pe c x h1).2 h0) (ia.pe c y h2).1 (ib.pe c z h3).1) fun σ H Q q => ?_, fun h => nomatch h⟩
    obtain ⟨F, δ, g, s, sr, q⟩ := q
    refine ⟨F, δ, g, s, sr, (Rest.bindT q).mono fun d H1 q => ?_⟩
    obtain ⟨F1, gr, q⟩ := q
    cases d with
    | true =>
      rw [if_pos rfl] at q ⊢
      refine ⟨F1, δ, g, gr.fh, sr.grow gr, q.view fun z => ?_⟩
      have z : (a.view || b.view) = false := z
      exact (Bool.or_eq_false_iff.mp z).1
    | false =>
      rw [if_neg (by simp)] at q ⊢
      refine ⟨F1, δ, g, gr.fh, sr.grow gr, q.view fun z => ?_⟩
      have z : (a.view || b.view) = false := z
      exact (Bool.or_eq_false_iff.mp z).2
  | _ => cases h
theorem s_ix {a b : E} (ia : Snd N K k fn gl a) (ib : Snd N K k fn gl b) : Snd N K k fn gl (.ix a b) := by
  refine .ofPE fun {X W sc} c x h => ?_
  cases x with
  | Subscript x y p =>
    obtain ⟨h1, h2⟩ := and_t h
    obtain ⟨h2, h3⟩ := and_t h2
    have P : PE X (.Subscript x y p) (tE K W (ev fn gl (.ix a b)) (E.view (.ix a b))) := by
      have hr := ix_all (X := X) (by have := c.hu; omega)
      rw [c.kfr] at hr
      refine PE.imp (pe_ix hr (ia.pe c x h2).1 (ib.pe c y h3).1 (slice_of h1)) fun σ H Q q => ?_
      obtain ⟨F, δ, g, s, sr, q⟩ := q
      refine ⟨F, δ, g, s, sr, (Rest.bind q).mono fun v H1 q => ?_⟩
      obtain ⟨F1, x, fp, gr, r, _, q⟩ := q
      refine ⟨F1, δ, g, gr.fh, sr.grow gr, (Rest.bind q).mono fun w H2 q => ?_⟩
      obtain ⟨F2, y, fp2, gr2, r2, _, q⟩ := q
      exact rest_ix gr2.fh (gr2.r r) r2 q
    exact ⟨P, fun _ => PT.ofPE P rfl⟩
  | _ => cases h
theorem s_sl {a lo hi : E} (ia : Snd N K k fn gl a) (il : Snd N K k fn gl lo) (ih : Snd N K k fn gl hi) : Snd N K k fn gl (.sl a lo hi) := by
  refine .ofPE fun {X W sc} c x h => ?_
  cases x with
  | Subscript x y p =>
    cases y with
    | Slice l u st p2 =>
      cases st with
      | some _ => cases h
      | none =>
        obtain ⟨h1, h2⟩ := and_t h
        obtain ⟨h2, h3⟩ := and_t h2
        have P : PE X (.Subscript x (.Slice l u none p2) p) (tE K W (ev fn gl (.sl a lo hi)) (E.view (.sl a lo hi))) := by
          have hr := SlR.or (sl_str (X := X)) (SlR.or (sl_list (X := X)) (sl_tup (X := X)))
          rw [c.kfr] at hr
          refine PE.imp (pe_slice hr (ia.pe c x h1).1 (il.po c l h2) (ih.po c u h3)) fun σ H Q q => ?_
          obtain ⟨F, δ, g, s, sr, q⟩ := q
          refine ⟨F, δ, g, s, sr, (Rest.bind q).mono fun v H1 q => ?_⟩
          obtain ⟨F1, x, fp, gr, r, _, q⟩ := q
          refine ⟨F1, δ, g, gr.fh, sr.grow gr, ?_⟩
          have q1 := Rest.bindO q
          have mono : ∀ {F H : Hp} {r : Res (Option Int)} {Q Q' : Option Int → Hp → Prop}, RestO K W σ F H r Q → (∀ o H, Q o H → Q' o H) → RestO K W σ F H r Q' := fun {F H r Q Q'} h k => by
            cases r with
            | ok o => exact fun F' H' b => k _ _ (h F' H' b)
            | exc c fs => exact h
            | stuck => exact h
          refine mono q1 fun o H2 q => ?_
          obtain ⟨F2, gr2, q⟩ := q
          refine ⟨F2, δ, g, gr2.fh, sr.grow (gr.trans gr2), mono (Rest.bindO q) fun o2 H3 q => ?_⟩
          obtain ⟨F3, gr3, q⟩ := q
          exact rest_sl gr3.fh ((gr2.trans gr3).r r) q
        exact ⟨P, fun _ => PT.ofPE P rfl⟩
    | _ => cases h
  | _ => cases h
theorem rv_of {y : Expr} (h : isRv y = true) : ∃ k p1 p2 p3, y = .Slice none none (some (.UnaryOp .USub (.Constant (.int 1) k p1) p2)) p3 := by
  unfold isRv at h
  split at h
  · have e := of_decide_eq_true h
    subst e
    exact ⟨_, _, _, _, rfl⟩
  · cases h
theorem s_rv {a : E} (ia : Snd N K k fn gl a) : Snd N K k fn gl (.rv a) := by
  refine .ofPE fun {X W sc} c x h => ?_
  cases x with
  | Subscript x y p =>
    obtain ⟨h1, h2⟩ := and_t h
    obtain ⟨kk, p1, p2, p3, rfl⟩ := rv_of h1
    have P : PE X (.Subscript x (.Slice none none (some (.UnaryOp .USub (.Constant (.int 1) kk p1) p2)) p3) p) (tE K W (ev fn gl (.rv a)) (E.view (.rv a))) := by
      refine PE.imp (pe_revL (ia.pe c _ h2).1) fun σ H Q q => ?_
      rw [c.kfr]
      obtain ⟨F, δ, g, s, sr, q⟩ := q
      refine ⟨F, δ, g, s, sr, (Rest.bind q).mono fun v H1 q => ?_⟩
      obtain ⟨F1, x, fp, gr, r, _, q⟩ := q
      unfold rvD at q
      split at q
      · rename_i o xs
        split at q
        · rename_i hn
          obtain ⟨l, vs, gg, rfl, ht, hs, _⟩ := r.lst_inv gr.fh
          exact ⟨l, vs, rfl, SqL.of ht, q.newL gr.fh (hs.nos0 hn).rev⟩
        · exact q.elim
      · exact q.elim
    exact ⟨P, fun _ => PT.ofPE P rfl⟩
  | _ => cases h
/-! ### lists of expressions -/
theorem s_nil : Snd N K k fn gl .nil where
  pe := fun _ _ h => by cases h
  pb := fun _ _ _ _ h => by cases h
  po := fun _ _ h => by cases h
  pa := fun {X W sc} c xs h => by
    cases xs with
    | cons _ _ => cases h
    | nil =>
      refine PA.imp pa_nil fun σ H Q q => ?_
      obtain ⟨F, δ, g, s, sr, q⟩ := q
      exact q [] F H (Grow.refl s) .nil
  pk := fun _ _ h => by cases h
  pc := fun _ _ h => by cases h
  pi := fun _ _ _ _ _ h => by cases h
theorem s_knil : Snd N K k fn gl .knil where
  pe := fun _ _ h => by cases h
  pb := fun _ _ _ _ h => by cases h
  po := fun _ _ h => by cases h
  pa := fun _ _ h => by cases h
  pk := fun {X W sc} c xs h => by
    cases xs with
    | cons _ _ => cases h
    | nil =>
      refine PA.imp pa_nil fun σ H Q q => ?_
      obtain ⟨F, δ, g, s, sr, q⟩ := q
      exact q [] F H [] (Grow.refl s) .nil fun _ z => nomatch z
  pc := fun _ _ h => by cases h
  pi := fun _ _ _ _ _ h => by cases h
theorem s_cons {a r : E} (ia : Snd N K k fn gl a) (ir : Snd N K k fn gl r) : Snd N K k fn gl (.cons a r) where
  pe := fun _ _ h => by cases h
  pb := fun _ _ _ _ h => by cases h
  po := fun _ _ h => by cases h
  pa := fun {X W sc} c xs h => by
    cases xs with
    | nil => cases h
    | cons x xs =>
      obtain ⟨h1, h2⟩ := and_t h
      obtain ⟨h2, h3⟩ := and_t h2
      refine PA.imp (pa_cons (ia.pe c x h2).1 (ir.pa c xs h3) (star_of h1)) fun σ H Q q => ?_
      obtain ⟨F, δ, g, s, sr, q⟩ := q
      have q : RestA K W σ F H ((ev fn gl a δ).bind fun x => (ev fn gl r δ).bind fun xs => .ok (.tup (x :: unT xs))) Q := q
      refine ⟨F, δ, g, s, sr, ?_⟩
      cases e1 : ev fn gl a δ with
      | ok d =>
        rw [e1] at q
        intro v F1 H1 fp gr r1 _
        refine ⟨F1, δ, g, gr.fh, sr.grow gr, ?_⟩
        have q : RestA K W σ F H ((ev fn gl r δ).bind fun xs => .ok (.tup (d :: unT xs))) Q := q
        cases e2 : ev fn gl r δ with
        | ok d2 =>
          rw [e2] at q
          exact fun vs F' H' g2 rv => q (v :: vs) F' H' (gr.trans g2) (.cons (g2.r r1) rv)
        | exc cc fs =>
          rw [e2] at q
          exact fun C d F' H' e b q2 => q C d F' H' e (gr.trans b) q2
        | stuck => rw [e2] at q; exact q
      | exc cc fs => rw [e1] at q; exact q
      | stuck => rw [e1] at q; exact q
  pk := fun _ _ h => by cases h
  pc := fun _ _ h => by cases h
  pi := fun _ _ _ _ _ h => by cases h
theorem s_kcons {a r : E} (ia : Snd N K k fn gl a) (ir : Snd N K k fn gl r) : Snd N K k fn gl (.kcons a r) where
  pe := fun _ _ h => by cases h
  pb := fun _ _ _ _ h => by cases h
  po := fun _ _ h => by cases h
  pa := fun _ _ h => by cases h
  pk := fun {X W sc} c xs h => by
    cases xs with
    | nil => cases h
    | cons x xs =>
      obtain ⟨h1, h2⟩ := and_t h
      obtain ⟨h2, h3⟩ := and_t h2
      refine PA.imp (pa_cons (ia.pe c x h2).1 (ir.pk c xs h3) (star_of h1)) fun σ H Q q => ?_
      obtain ⟨F, δ, g, s, sr, q⟩ := q
      have q : RestK K W σ F H (((ev fn gl a δ).bind (vlD a.view)).bind fun x => (ev fn gl r δ).bind fun xs => .ok (.tup (x :: unT xs))) Q := q
      refine ⟨F, δ, g, s, sr, (RestK.vlb q).mono fun v H1 q => ?_⟩
      obtain ⟨F1, x, fp, gr, r, n, q⟩ := q
      exact ⟨F1, δ, g, gr.fh, sr.grow gr, RestK.cons q gr r n⟩
  pc := fun _ _ h => by cases h
  pi := fun _ _ _ _ _ h => by cases h
theorem RestK.mono {W : WX} {σ : L2.St} {F H : Hp} {r : Res D} {Q Q' : List V → Hp → Prop} (h : RestK K W σ F H r Q) (k : ∀ v H, Q v H → Q' v H) : RestK K W σ F H r Q' := by
  cases r with
  | ok d => exact fun v F' H' fp b q n => k _ _ (h v F' H' fp b q n)
  | exc c fs => exact h
  | stuck => exact h
theorem s_tup {a : E} (ia : Snd N K k fn gl a) : Snd N K k fn gl (.tup a) := by
  refine .ofPE fun {X W sc} c x h => ?_
  cases x with
  | Tuple xs kk p =>
    have P : PE X (.Tuple xs kk p) (tE K W (ev fn gl (.tup a)) (E.view (.tup a))) := by
      refine PE.imp (pe_tup (ia.pk c xs h)) fun σ H Q q => ?_
      obtain ⟨F, δ, g, s, sr, q⟩ := q
      refine ⟨F, δ, g, s, sr, RestK.mono (Rest.bindK q) fun vs H1 q => ?_⟩
      obtain ⟨F1, x, fp, gr, r, n, q⟩ := q
      unfold tupD at q
      split at q
      · rename_i hl
        exact ⟨by rw [r.length]; exact hl, q.putT gr r n⟩
      · exact q.elim
    exact ⟨P, fun _ => PT.ofPE P rfl⟩
  | _ => cases h
theorem s_lst {a : E} (ia : Snd N K k fn gl a) : Snd N K k fn gl (.lst a) := by
  refine .ofPE fun {X W sc} c x h => ?_
  cases x with
  | List xs p =>
    have P : PE X (.List xs p) (tE K W (ev fn gl (.lst a)) (E.view (.lst a))) := by
      refine PE.imp (pe_lst (ia.pk c xs h)) fun σ H Q q => ?_
      obtain ⟨F, δ, g, s, sr, q⟩ := q
      refine ⟨F, δ, g, s, sr, RestK.mono (Rest.bindK q) fun vs H1 q => ?_⟩
      obtain ⟨F1, x, fp, gr, r, n, q⟩ := q
      unfold lstD at q
      split at q
      · rename_i hl
        exact ⟨by rw [r.length]; exact hl, q.putL gr r n⟩
      · exact q.elim
    exact ⟨P, fun _ => PT.ofPE P rfl⟩
  | _ => cases h
/-! ### calls -/
theorem RestA.bind1 {W : WX} {σ : L2.St} {F H : Hp} {r : Res D} {f : D → Res D} {view : Bool} {Q : VK} (h : Rest K W σ F H (r.bind f) view Q) : RestA K W σ F H r fun vs H1 => ∃ F1 x, Grow F H F1 H1 ∧ RV K F1 H1 vs (unT x) ∧ Rest K W σ F1 H1 (f x) view Q := Rest.bindA h
theorem s_call (hK : K.exc = none) {f : Str} {a : E} (ia : Snd N K k fn gl a) : Snd N K k fn gl (.call f a) := by
  refine .ofPE fun {X W sc} c x h => ?_
  cases x with
  | Call fe xs kws p =>
    cases fe with
    | Name g p0 =>
      cases xs with
      | nil => cases h
      | cons x xs =>
        cases kws with
        | cons _ _ => cases h
        | nil =>
          obtain ⟨h1, h2⟩ := and_t h
          obtain ⟨h2, h3⟩ := and_t h2
          obtain ⟨hb, h1⟩ := and_t h1
          have e : f = g := of_decide_eq_true h1
          subst e
          have P : PE X (.Call (.Name f p0) (x :: xs) [] p) (tE K W (ev fn gl (.call f a)) (E.view (.call f a))) := by
            cases ef : fn f with
            | none =>
              refine ⟨fun pins s σ H Q I q => ?_⟩
              obtain ⟨F, δ, g, s, sr, q⟩ := q
              have q : Rest K W σ F H (match fn f with | none => .stuck | some F => (ev fn gl a δ).bind fun x => lend F (unT x)) false Q := q
              rw [ef] at q
              exact q.elim
            | some Fn =>
              obtain ⟨ad, fd, ps, A⟩ := c.g.fns hK f Fn hb ef
              obtain ⟨hs, r, hr⟩ := chEs_cons h3
              have ok := A.ok
              have kp := A.kp
              have bd := A.bd
              rw [← c.kfr] at ok kp bd
              refine PE.imp (pe_callS ok (c.rm hK) (c.glo h2).1 A.at_ kp bd (fun σ => L2N.passAt c.tk σ) (ia.pa c _ h3) (c.glo h2).2.1 (star_of hs) (backs hr)) fun σ H Q q => ?_
              obtain ⟨F, δ, g, s, sr, q⟩ := q
              have q : Rest K W σ F H (match fn f with | none => .stuck | some F => (ev fn gl a δ).bind fun x => lend F (unT x)) false Q := q
              rw [ef] at q
              refine ⟨F, δ, g, s, sr, (Rest.bindA q).mono fun vs H1 q => ?_⟩
              obtain ⟨F1, d, gr, rv, q⟩ := q
              exact rest_call gr.fh rv q
          exact ⟨P, fun _ => PT.ofPE P rfl⟩
    | _ => cases h
  | _ => cases h
theorem pe_callX {X : Cx} {f : Value} {r : List V → Hp → VK → Prop} {x : Str} {p pos : Pos} {e : Expr} {es : List Expr} {t : TA} (hf : (∃ id, f = .builtin id) ∨ ∃ T, f = .type T) (hc : CallR X f r) (hg : Gl X x) (hm : X.mg x = none) (hv : bootBuiltins x = some f) (ha : PA X (e :: es) t) (hn : x ≠ "__name__") (hdb : (x == ("__debug__" : Str)) = false)
    (he : starEach (e :: es) X.env = (false, eval e X.env) :: starEach es X.env) (hpl : (backTo pos (starEach es X.env)).any (·.1) = false) : PE X (.Call (.Name x p) (e :: es) [] pos) (tCB r t) := by
  rcases hf with ⟨id, rfl⟩ | ⟨T, rfl⟩
  · exact pe_callB hc hg hm hv ha hn hdb he hpl
  · exact pe_callTy hc hg hm hv ha hn hdb he hpl
theorem bltV_form (b : Blt) : (∃ id, bltV b = .builtin id) ∨ ∃ T, bltV b = .type T := by
  cases b <;> first | exact .inl ⟨_, rfl⟩ | exact .inr ⟨_, rfl⟩
theorem s_blt (hK : K.exc = none) {b : Blt} {a : E} (ia : Snd N K k fn gl a) : Snd N K k fn gl (.blt b a) := by
  refine .ofPE fun {X W sc} c x h => ?_
  cases x with
  | Call fe xs kws p =>
    cases fe with
    | Name g p0 =>
      cases xs with
      | nil => cases h
      | cons x xs =>
        cases kws with
        | cons _ _ => cases h
        | nil =>
          obtain ⟨h1, h2⟩ := and_t h
          obtain ⟨h2, h3⟩ := and_t h2
          have e : g = bltName b := of_decide_eq_true h1
          subst e
          have P : PE X (.Call (.Name (bltName b) p0) (x :: xs) [] p) (tE K W (ev fn gl (.blt b a)) (E.view (.blt b a))) := by
            obtain ⟨hs, r, hr⟩ := chEs_cons h3
            have hc := call_blt (c.calm hK) b
            rw [c.kfr] at hc
            refine PE.imp (pe_callX (bltV_form b) hc (c.glo h2).1 (c.mem (blt_mem b)) (boot_blt b) (ia.pa c _ h3) (name_ne (blt_mem b)).1 (name_ne (blt_mem b)).2 (star_of hs) (backs hr)) fun σ H Q q => ?_
            obtain ⟨F, δ, g, s, sr, q⟩ := q
            refine ⟨F, δ, g, s, sr, (Rest.bindA q).mono fun vs H1 q => ?_⟩
            obtain ⟨F1, d, gr, rv, q⟩ := q
            exact rest_blt gr.fh rv q
          exact ⟨P, fun _ => PT.ofPE P rfl⟩
    | _ => cases h
  | _ => cases h
theorem s_isi {t : Str} {a : E} (ia : Snd N K k fn gl a) : Snd N K k fn gl (.isi a t) := by
  refine .ofPE fun {X W sc} c x h => ?_
  cases x with
  | Call fe xs kws p =>
    cases fe with
    | Name g p0 =>
      cases xs with
      | nil => cases h
      | cons x xs =>
        cases xs with
        | nil => cases h
        | cons y xs =>
          cases xs with
          | cons _ _ => cases y <;> cases h
          | nil =>
            cases y with
            | Name u p1 =>
              cases kws with
              | cons _ _ => cases h
              | nil =>
                obtain ⟨h1, b1⟩ := and_t h
                obtain ⟨h2, b2⟩ := and_t b1
                obtain ⟨h3, b3⟩ := and_t b2
                obtain ⟨h4, b4⟩ := and_t b3
                obtain ⟨h5, b5⟩ := and_t b4
                obtain ⟨h6, h7⟩ := and_t b5
                clear b1 b2 b3 b4 b5
                have e : g = "isinstance" := of_decide_eq_true h1
                subst e
                have e : u = t := of_decide_eq_true h3
                subst e
                obtain ⟨T, hT, et, eb, em⟩ := isi_case (isi_of h5)
                have P : PE X (.Call (.Name "isinstance" p0) [x, .Name u p1] [] p) (tE K W (ev fn gl (.isi a u)) (E.view (.isi a u))) := by
                  have hc := call_isi (X := X)
                  rw [c.kfr] at hc
                  refine PE.imp (pe_callB hc (c.glo h2).1 (c.mem (by decide)) (by decide +kernel) (pa_cons (ia.pe c x h7).1 (pa_cons (pe_bltn (v := .ty T) (c.glo h4).1 (c.mem em) eb rfl (name_ne em).1 (name_ne em).2) pa_nil rfl) (star_of h6)) (by decide) (by decide) (star_of h6) rfl) fun σ H Q q => ?_
                  obtain ⟨F, δ, g, s, sr, q⟩ := q
                  refine ⟨F, δ, g, s, sr, (Rest.bind q).mono fun v H1 q => ?_⟩
                  obtain ⟨F1, d, fp, gr, r, _, q⟩ := q
                  obtain ⟨T', w, b, e1, _, ty, kk, q⟩ := rest_isi gr.fh r q
                  rw [eb] at e1
                  cases e1
                  exact ⟨v, .ty T, w, .type T, b, rfl, .ty T, ty, kk, q⟩
                exact ⟨P, fun _ => PT.ofPE P rfl⟩
            | _ => cases h
    | _ => cases h
  | _ => cases h
theorem s_mth {m : Mth} {o a : E} (io : Snd N K k fn gl o) (ia : Snd N K k fn gl a) : Snd N K k fn gl (.mth m o a) := by
  refine .ofPE fun {X W sc} c x h => ?_
  cases x with
  | Call fe xs kws p =>
    cases fe with
    | Attribute x n ap =>
      cases xs with
      | nil => cases h
      | cons y xs =>
        cases xs with
        | cons _ _ => cases h
        | nil =>
          cases kws with
          | cons _ _ => cases h
          | nil =>
            obtain ⟨h1, h2⟩ := and_t h
            obtain ⟨h2, h3⟩ := and_t h2
            obtain ⟨h3, h4⟩ := and_t h3
            obtain ⟨h4, h5⟩ := and_t h4
            obtain ⟨h5, h6⟩ := and_t h5
            have e : n = mthName m := of_decide_eq_true h1
            subst e
            have P : PE X (.Call (.Attribute x (mthName m) ap) [y] [] p) (tE K W (ev fn gl (.mth m o a)) (E.view (.mth m o a))) := by
              refine PE.imp (pe_mth (io.pe c x h5).1 (ia.pe c y h6).1 h4 h3 h2) fun σ H Q q => ?_
              rw [c.kfr]
              obtain ⟨F, δ, g, s, sr, q⟩ := q
              refine ⟨F, δ, g, s, sr, (Rest.bind q).mono fun v H1 q => ?_⟩
              obtain ⟨F1, d, fp, gr, r, _, q⟩ := q
              obtain ⟨k1, q⟩ := Rest.strb r q
              refine ⟨k1, F1, δ, g, gr.fh, sr.grow gr, (Rest.bind q).mono fun w H2 q => ?_⟩
              obtain ⟨F2, d2, fp2, gr2, r2, _, q⟩ := q
              exact rest_mth gr2.fh (gr2.r r) r2 q
            exact ⟨P, fun _ => PT.ofPE P rfl⟩
    | _ => cases h
  | _ => cases h
/-! ### what is walked -/
theorem s_rng1 {a : E} (ia : Snd N K k fn gl a) : Snd N K k fn gl (.rng1 a) := by
  refine .ofPI fun {X W sc} c tg t x ht h => ?_
  cases x with
  | Call fe xs kws p =>
    cases fe with
    | Name g p0 =>
      cases xs with
      | nil => cases h
      | cons x xs =>
        cases xs with
        | cons _ _ => cases h
        | nil =>
          cases kws with
          | cons _ _ => cases h
          | nil =>
            obtain ⟨h1, h2⟩ := and_t h
            obtain ⟨h2, h3⟩ := and_t h2
            obtain ⟨h3, h4⟩ := and_t h3
            have e : g = "range" := of_decide_eq_true h1
            subst e
            exact pi_rng1 (c.glo h2).1 (c.mem (by decide)) (ia.pe c x h4).1 h3
    | _ => cases h
  | _ => cases h
theorem s_rng2 {a b : E} (ia : Snd N K k fn gl a) (ib : Snd N K k fn gl b) : Snd N K k fn gl (.rng2 a b) := by
  refine .ofPI fun {X W sc} c tg t x ht h => ?_
  cases x with
  | Call fe xs kws p =>
    cases fe with
    | Name g p0 =>
      cases xs with
      | nil => cases h
      | cons x xs =>
        cases xs with
        | nil => cases h
        | cons y xs =>
          cases xs with
          | cons _ _ => cases h
          | nil =>
            cases kws with
            | cons _ _ => cases h
            | nil =>
              obtain ⟨h1, h2⟩ := and_t h
              obtain ⟨h2, h3⟩ := and_t h2
              obtain ⟨h3, h4⟩ := and_t h3
              obtain ⟨h4, h5⟩ := and_t h4
              obtain ⟨h5, h6⟩ := and_t h5
              have e : g = "range" := of_decide_eq_true h1
              subst e
              exact pi_rng2 (c.glo h2).1 (c.mem (by decide)) (ia.pe c x h5).1 (ib.pe c y h6).1 h3 h4
    | _ => cases h
  | _ => cases h
theorem s_zip2 {a b : E} (ia : Snd N K k fn gl a) (ib : Snd N K k fn gl b) : Snd N K k fn gl (.zip2 a b) := by
  refine .ofPI fun {X W sc} c tg t x ht h => ?_
  cases x with
  | Call fe xs kws p =>
    cases fe with
    | Name g p0 =>
      cases xs with
      | nil => cases h
      | cons x xs =>
        cases xs with
        | nil => cases h
        | cons y xs =>
          cases xs with
          | cons _ _ => cases h
          | nil =>
            cases kws with
            | cons _ _ => cases h
            | nil =>
              cases tg with
              | nm _ => cases h
              | tp is =>
                obtain ⟨es, kk, tp, rfl⟩ := ht is rfl
                obtain ⟨h1, h2⟩ := and_t h
                obtain ⟨h2, h3⟩ := and_t h2
                obtain ⟨h3, h4⟩ := and_t h3
                obtain ⟨h4, h5⟩ := and_t h4
                obtain ⟨h5, h6⟩ := and_t h5
                have e : g = "zip" := of_decide_eq_true h1
                subst e
                exact pi_zp (c.glo h2).1 (c.mem (by decide)) c.kfr (ia.pe c x h5).1 (ib.pe c y h6).1 h3 h4
    | _ => cases h
  | _ => cases h
theorem s_enum {a : E} (ia : Snd N K k fn gl a) : Snd N K k fn gl (.enum a) := by
  refine .ofPI fun {X W sc} c tg t x ht h => ?_
  cases x with
  | Call fe xs kws p =>
    cases fe with
    | Name g p0 =>
      cases xs with
      | nil => cases h
      | cons x xs =>
        cases xs with
        | cons _ _ => cases h
        | nil =>
          cases kws with
          | cons _ _ => cases h
          | nil =>
            cases tg with
            | nm _ => cases h
            | tp is =>
              obtain ⟨es, kk, tp, rfl⟩ := ht is rfl
              obtain ⟨h1, h2⟩ := and_t h
              obtain ⟨h2, h3⟩ := and_t h2
              obtain ⟨h3, h4⟩ := and_t h3
              have e : g = "enumerate" := of_decide_eq_true h1
              subst e
              exact pi_enm (c.glo h2).1 (c.mem (by decide)) c.kfr (ia.pe c x h4).1 h3
    | _ => cases h
  | _ => cases h
theorem s_revd {a : E} (ia : Snd N K k fn gl a) : Snd N K k fn gl (.revd a) := by
  refine .ofPI fun {X W sc} c tg t x ht h => ?_
  cases x with
  | Call fe xs kws p =>
    cases fe with
    | Name g p0 =>
      cases xs with
      | nil => cases h
      | cons x xs =>
        cases xs with
        | cons _ _ => cases h
        | nil =>
          cases kws with
          | cons _ _ => cases h
          | nil =>
            obtain ⟨h1, h2⟩ := and_t h
            obtain ⟨h2, h3⟩ := and_t h2
            obtain ⟨h3, h4⟩ := and_t h3
            have e : g = "reversed" := of_decide_eq_true h1
            subst e
            exact pi_rvd (c.glo h2).1 (c.mem (by decide)) c.kfr (ia.pe c x h4).1 h3
    | _ => cases h
  | _ => cases h
/-! ### comprehensions -/
theorem takes0N {X : Cx} : L2N.Takes X W0 := fun _ _ x => by
  obtain ⟨_, _, _, _, _, _, _, _, _, _, _, _, _, _, _, _, z⟩ := x
  exact z.elim
theorem Cok.blkG {X : Cx} {W : WX} {sc scope : Scope} (c : Cok X W N sc K k fn gl) {s : Shared} {H : Hp} {C : Addr} {cl : List (Str × Addr)} {fp : List Addr} (ho : ∀ x1 c, K.exc = some (x1, c) → HotK (X.blk s H scope (compEnvC scope cl C X.env) fp) K x1 c) : Cok (X.blk s H scope (compEnvC scope cl C X.env) fp) W0 N (relS scope sc) K k fn gl where
  hN := c.hN
  nd := c.nd
  hsc := by
    rw [← c.hsc]
    rfl
  calm := c.calm
  hot := ho
  tk := takes0N
  nh := c.nh
  room := c.room
  kfr := c.kfr
  g := c.g
theorem Cok.blk {X : Cx} {W : WX} {sc scope : Scope} (c : Cok X W N sc K k fn gl) (hK : K.exc = none) {s : Shared} {H : Hp} {C : Addr} {cl : List (Str × Addr)} {fp : List Addr} : Cok (X.blk s H scope (compEnvC scope cl C X.env) fp) W0 N (relS scope sc) K k fn gl :=
  c.blkG fun x1 c0 e => by rw [hK] at e; cases e
theorem Wr.blk {X : Cx} {W : WX} {sc scope : Scope} (c : Cok X W N sc K k fn gl) {s : Shared} {H : Hp} {C : Addr} {cl : List (Str × Addr)} {fp : List Addr} : Wr (X.blk s H scope (compEnvC scope cl C X.env) fp) scope := fun x h => by
  have hsc : (compEnvC scope cl C X.env).scope = relS scope sc := by
    rw [← c.hsc]
    rfl
  unfold locB at h
  split at h
  · rename_i e
    have : (relS scope sc).names.lookup x = some .local := lookup_relS_keep (by decide) e
    refine ⟨.inl ?_, .inr ?_⟩
    · show (compEnvC scope cl C X.env).scope.names.lookup x = _
      rw [hsc]
      exact this
    · show (compEnvC scope cl C X.env).scope.names.lookup x = _
      rw [hsc]
      exact this
  · rename_i e
    have : (relS scope sc).names.lookup x = some .cell := lookup_relS_keep (by decide) e
    refine ⟨.inr ?_, .inl ?_⟩
    · show (compEnvC scope cl C X.env).scope.names.lookup x = _
      rw [hsc]
      exact this
    · show (scope.names.lookup x == some .cell) = true
      rw [e]
      rfl
  · cases h
theorem notSet_of {sc : Scope} {tg : Tg} {src : E} {it : Expr} (h : chI N sc tg src it = true) : notSet it = true := by
  cases it with
  | Set a b p =>
    cases src <;> first | (cases h; done) | exact (and_t h).1
  | _ => rfl
theorem tgShape {sc : Scope} {tg : Tg} {t : Expr} (h : tgB N sc tg t = true) : ∀ is, tg = .tp is → ∃ es k p, t = .Tuple es k p := fun is e => by
  subst e
  cases t with
  | Tuple es k p => exact ⟨es, k, p, rfl⟩
  | _ => cases h
theorem s_lc (hK : K.exc = none) {own : List Nat} {tg : Tg} {src q e : E} (is : Snd N K k fn gl src) (iq : Snd N K k fn gl q) (ie : Snd N K k fn gl e) : Snd N K k fn gl (.lc own tg src q e) := by
  refine .ofPE fun {X W sc} c x h => ?_
  cases x with
  | ListComp elt gens scope p =>
    cases gens with
    | nil => cases h
    | cons gen gens =>
      cases gens with
      | cons _ _ => cases gen; cases h
      | nil =>
        obtain ⟨t, it, ifs, as⟩ := gen
        obtain ⟨h1, h2⟩ := and_t h
        obtain ⟨h2, h3⟩ := and_t h2
        obtain ⟨h3, h4⟩ := and_t h3
        obtain ⟨h4, h5⟩ := and_t h4
        obtain ⟨h5, h6⟩ := and_t h5
        obtain ⟨h6, h7⟩ := and_t h6
        obtain ⟨h7, h8⟩ := and_t h7
        have ea : as = 0 := of_decide_eq_true h1
        subst ea
        have eo : own = (ownP N scope).map (·.2) := of_decide_eq_true h3
        have P : PE X (.ListComp elt [⟨t, it, ifs, 0⟩] scope p) (tE K W (ev fn gl (.lc own tg src q e)) (E.view (.lc own tg src q e))) := by
          have ok : BlkOk X.N X.env.scope scope (ownP N scope) := by
            rw [c.hN, c.hsc]
            exact blkOk_by h2
          refine PE.imp (pe_lc (c.calm hK) (by rw [c.hN]; exact c.nd) (is.pi c tg t it (tgShape h6) h4) ok (fun s H C cl fp => pg_tgt (X := X.blk s H scope (compEnvC scope cl C X.env) fp) c.hN c.nd (Wr.blk c) (c.calm hK) c.kfr h6)
            (fun s H C cl fp => iq.pc (c.blk hK (s := s) (H := H) (C := C) (cl := cl) (fp := fp)) ifs h7) (fun s H C cl fp => (ie.pe (c.blk hK (s := s) (H := H) (C := C) (cl := cl) (fp := fp)) elt h8).1) (set_of (notSet_of h4))) fun σ H Q q => ?_
          rw [← eo]
          exact lc_imp h5 σ H Q q
        exact ⟨P, fun _ => PT.ofPE P rfl⟩
  | _ => cases h
theorem lcl_weak {X : Cx} {W : WX} {own : List Nat} {tg : Tg} {ms mc me : List D → Res D} {vw view : Bool} : ∀ σ H Q, tE K W (fun δ => (ms δ).bind fun s => lclD s fun xs => lcGo (fun x => bindTg tg x (wipeD δ own)) mc me vw xs []) view σ H Q → tE K W (fun δ => (ms δ).bind fun s => lcD s fun xs => lcGo (fun x => bindTg tg x (wipeD δ own)) mc me vw xs []) view σ H Q := fun σ H Q q => by
  obtain ⟨F, δ, g, s, sr, q⟩ := q
  refine ⟨F, δ, g, s, sr, ?_⟩
  have q : Rest K W σ F H ((ms δ).bind fun s => lclD s fun xs => lcGo (fun x => bindTg tg x (wipeD δ own)) mc me vw xs []) view Q := q
  show Rest K W σ F H ((ms δ).bind fun s => lcD s fun xs => lcGo (fun x => bindTg tg x (wipeD δ own)) mc me vw xs []) view Q
  cases e : ms δ with
  | stuck => rw [e] at q; exact q
  | exc c fs => rw [e] at q; exact q
  | ok d =>
    rw [e] at q
    have q : Rest K W σ F H (lclD d fun xs => lcGo (fun x => bindTg tg x (wipeD δ own)) mc me vw xs []) view Q := q
    unfold lclD at q
    split at q
    · exact q
    · exact q.elim
/-- of a list alone, also while an exception is handled -/
theorem s_lcl {own : List Nat} {tg : Tg} {src q e : E} (is : Snd N K k fn gl src) (iq : Snd N K k fn gl q) (ie : Snd N K k fn gl e) : Snd N K k fn gl (.lcl own tg src q e) := by
  refine .ofPE fun {X W sc} c x h => ?_
  cases x with
  | ListComp elt gens scope p =>
    cases gens with
    | nil => cases h
    | cons gen gens =>
      cases gens with
      | cons _ _ => cases gen; cases h
      | nil =>
        obtain ⟨t, it, ifs, as⟩ := gen
        obtain ⟨h1, h2⟩ := and_t h
        obtain ⟨h2, h3⟩ := and_t h2
        obtain ⟨h3, h4⟩ := and_t h3
        obtain ⟨h0, h4⟩ := and_t h4
        obtain ⟨h4, h5⟩ := and_t h4
        obtain ⟨h5, h6⟩ := and_t h5
        obtain ⟨h6, h7⟩ := and_t h6
        obtain ⟨h7, h8⟩ := and_t h7
        have ea : as = 0 := of_decide_eq_true h1
        subst ea
        have eo : own = (ownP N scope).map (·.2) := of_decide_eq_true h3
        have ok : BlkOk X.N X.env.scope scope (ownP N scope) := by
          rw [c.hN, c.hsc]
          exact blkOk_by h2
        have P : PE X (.ListComp elt [⟨t, it, ifs, 0⟩] scope p) (tE K W (ev fn gl (.lcl own tg src q e)) (E.view (.lcl own tg src q e))) := by
          cases hK : K.exc with
          | none =>
            have pi := pi_any (tg := t) (is.pe c it h4).1 c.kfr
            refine PE.imp (pe_lc (c.calm hK) (by rw [c.hN]; exact c.nd) pi ok (fun s H C cl fp => pg_tgt (X := X.blk s H scope (compEnvC scope cl C X.env) fp) c.hN c.nd (Wr.blk c) (c.calm hK) c.kfr h6)
              (fun s H C cl fp => iq.pc (c.blk hK (s := s) (H := H) (C := C) (cl := cl) (fp := fp)) ifs h7) (fun s H C cl fp => (ie.pe (c.blk hK (s := s) (H := H) (C := C) (cl := cl) (fp := fp)) elt h8).1) (set_of h0)) fun σ H Q q => ?_
            rw [← eo]
            exact lc_imp h5 σ H Q (lcl_weak (X := X) σ H Q q)
          | some xc =>
            obtain ⟨x1, c0⟩ := xc
            obtain ⟨hcx, hrs, oe, C0, hca, z, hz⟩ := c.hot x1 c0 hK
            have ho : ∀ {s : Shared} {H : Hp} {C : Addr} {cl : List (Str × Addr)} {fp : List Addr}, HotQ (X.blk s H scope (compEnvC scope cl C X.env) fp) x1 oe → ∀ y1 d0, K.exc = some (y1, d0) → HotK (X.blk s H scope (compEnvC scope cl C X.env) fp) K y1 d0 := fun {s H C cl fp} zb y1 d0 e => by
              rw [hK] at e
              cases e
              exact ⟨hcx, hrs, oe, C0, hca, zb, hz⟩
            have hl := (is.pe c it h4).1
            refine PE.imp (pe_lcH z (by rw [c.hN]; exact c.nd) hl ok (fun s H C cl fp zb => pg_tgtH (X := X.blk s H scope (compEnvC scope cl C X.env) fp) c.hN c.nd (Wr.blk c) zb c.kfr h6)
              (fun s H C cl fp zb => iq.pc (c.blkG (s := s) (H := H) (C := C) (cl := cl) (fp := fp) (ho zb)) ifs h7) (fun s H C cl fp zb => (ie.pe (c.blkG (s := s) (H := H) (C := C) (cl := cl) (fp := fp) (ho zb)) elt h8).1) (set_of h0)) fun σ H Q q => ?_
            rw [← eo, c.kfr]
            exact lcl_imp h5 σ H Q q
        exact ⟨P, fun _ => PT.ofPE P rfl⟩
  | _ => cases h
/-- a call, an exception handled -/
theorem s_callH {x1 : Addr} {c0 : Str} (hK : K.exc = some (x1, c0)) {f : Str} {a : E} (hf : f = "_law_kinds") (ia : Snd N K k fn gl a) : Snd N K k fn gl (.call f a) := by
  refine .ofPE fun {X W sc} c x h => ?_
  cases x with
  | Call fe xs kws p =>
    cases fe with
    | Name g p0 =>
      cases xs with
      | nil => cases h
      | cons x xs =>
        cases kws with
        | cons _ _ => cases h
        | nil =>
          obtain ⟨h1, h2⟩ := and_t h
          obtain ⟨h2, h3⟩ := and_t h2
          obtain ⟨hb, h1⟩ := and_t h1
          have e : f = g := of_decide_eq_true h1
          subst e
          have P : PE X (.Call (.Name f p0) (x :: xs) [] p) (tE K W (ev fn gl (.call f a)) (E.view (.call f a))) := by
            cases ef : fn f with
            | none =>
              refine ⟨fun pins s σ H Q I q => ?_⟩
              obtain ⟨F, δ, g, s, sr, q⟩ := q
              have q : Rest K W σ F H (match fn f with | none => .stuck | some F => (ev fn gl a δ).bind fun x => lend F (unT x)) false Q := q
              rw [ef] at q
              exact q.elim
            | some Fn =>
              obtain ⟨hcx, hrs, oe, C0, hca, z, hz⟩ := c.hot x1 c0 hK
              rw [hf] at ef
              obtain ⟨ad, fd, ps, A⟩ := c.g.fnh Fn ef x1 c0 C0 hca hrs hcx
              rw [Kx.hot_self hK] at A
              obtain ⟨hs, r, hr⟩ := chEs_cons h3
              have ok := A.ok
              have kp := A.kp
              have bd := A.bd
              rw [← c.kfr] at ok kp bd
              refine PE.imp (pe_callP ok c.room z hz (c.glo h2).1 (by rw [hf]; exact A.at_) kp bd (fun σ => L2N.passAt c.tk σ) (ia.pa c _ h3) (c.glo h2).2.1 (star_of hs) (backs hr)) fun σ H Q q => ?_
              obtain ⟨F, δ, g, s, sr, q⟩ := q
              have q : Rest K W σ F H (match fn f with | none => .stuck | some F => (ev fn gl a δ).bind fun x => lend F (unT x)) false Q := q
              rw [hf, ef] at q
              refine ⟨F, δ, g, s, sr, (Rest.bindA q).mono fun vs H1 q => ?_⟩
              obtain ⟨F1, d, gr, rv, q⟩ := q
              exact rest_call gr.fh rv q
          exact ⟨P, fun _ => PT.ofPE P rfl⟩
    | _ => cases h
  | _ => cases h
theorem pe_no {X : Cx} {e : Expr} : PE X e (fun _ _ _ => False) := ⟨fun _ _ _ _ _ _ h => h.elim⟩
/-- isinstance of the exception that is handled -/
theorem s_isx {u : Str} {a : E} (ia : Snd N K k fn gl a) : Snd N K k fn gl (.isx a u) := by
  refine .ofPE fun {X W sc} c x h => ?_
  cases x with
  | Call fe xs kws p =>
    cases fe with
    | Name g p0 =>
      cases xs with
      | nil => cases h
      | cons x xs =>
        cases xs with
        | nil => cases h
        | cons y xs =>
          cases xs with
          | cons _ _ => cases y <;> cases h
          | nil =>
            cases y with
            | Name v p1 =>
              cases kws with
              | cons _ _ => cases h
              | nil =>
                obtain ⟨h1, b1⟩ := and_t h
                obtain ⟨h2, b2⟩ := and_t b1
                obtain ⟨h3, b3⟩ := and_t b2
                obtain ⟨h4, b4⟩ := and_t b3
                obtain ⟨h6, h7⟩ := and_t b4
                clear b1 b2 b3 b4
                have e : g = "isinstance" := of_decide_eq_true h1
                subst e
                have e : v = u := of_decide_eq_true h3
                subst e
                have mk : ∀ {t2 : TE}, PE X (.Name v p1) t2 → PE X (.Call (.Name "isinstance" p0) [x, .Name v p1] [] p) (tCB (rIsQ X) (tCons (tE K W (ev fn gl a) a.view) (tCons t2 tNil))) := fun {t2} p2 =>
                  pe_callB call_isQ (c.glo h2).1 (c.mem (by decide)) (by decide +kernel) (pa_cons (ia.pe c x h7).1 (pa_cons p2 pa_nil rfl) (star_of h6)) (by decide) (by decide) (star_of h6) rfl
                have P : PE X (.Call (.Name "isinstance" p0) [x, .Name v p1] [] p) (tE K W (ev fn gl (.isx a v)) (E.view (.isx a v))) := by
                  -- the argument is the exception that is handled
                  have inv : ∀ {F1 H1 : Hp} {σ : L2.St} {w : V} {d : D} {fp : List Addr} {Q : VK}, R K F1 H1 w d fp → Rest K W σ F1 H1 (isxD v d) false Q → ∃ x1 c0, K.exc = some (x1, c0) ∧ w = .ref x1 ∧ (own14.contains v || decide (v = "ValueError")) = true ∧ Rest K W σ F1 H1 (.ok (.bl (subX c0 v))) false Q := fun {F1 H1 σ w d fp Q} r q => by
                    cases r with
                    | exv e =>
                      have q : Rest K W σ F1 H1 (if own14.contains v || decide (v = "ValueError") then .ok (.bl (subX _ v)) else .stuck) false Q := q
                      split at q
                      · rename_i hv
                        exact ⟨_, _, e, rfl, hv, q⟩
                      · exact q.elim
                    | _ => exact q.elim
                  cases hK : K.exc with
                  | none =>
                    refine PE.imp (mk pe_no) fun σ H Q q => ?_
                    obtain ⟨F, δ, g, s, sr, q⟩ := q
                    refine ⟨F, δ, g, s, sr, (Rest.bind q).mono fun w H1 q => ?_⟩
                    obtain ⟨F1, d, fp, gr, r, _, q⟩ := q
                    obtain ⟨x1, c0, e, _⟩ := inv r q
                    rw [hK] at e
                    cases e
                  | some xc =>
                    obtain ⟨x1, c0⟩ := xc
                    obtain ⟨hcx, hrs, oe, C0, hca, z, hz⟩ := c.hot x1 c0 hK
                    obtain ⟨mve, kit⟩ := c.g.kit hcx
                    have ki := kit c0 C0 hca hrs
                    by_cases ho : own14.contains v = true
                    · obtain ⟨U, mU, kU⟩ := ki.own v ho
                      refine PE.imp (mk (pe_glob (v := .ref U) (c.glo h4).1 mU rfl (c.glo h4).2.1)) fun σ H Q q => ?_
                      obtain ⟨F, δ, g, s, sr, q⟩ := q
                      refine ⟨F, δ, g, s, sr, (Rest.bind q).mono fun w H1 q => ?_⟩
                      obtain ⟨F1, d, fp, gr, r, _, q⟩ := q
                      obtain ⟨y1, d0, e, rfl, _, q⟩ := inv r q
                      rw [hK] at e
                      cases e
                      have ec := ki.ec
                      rw [← c.kfr] at ec kU
                      exact ⟨x1, oe, C0, .ref U, .ref U, subX c0 v, z, ec, hz, rfl, fun _ e => e, kU, q.sc gr.fh fun _ _ => .bl _⟩
                    · by_cases hv : v = "ValueError"
                      · subst hv
                        refine PE.imp (mk (pe_bltn (v := .ty "ValueError") (c.glo h4).1 mve (by decide +kernel) rfl (by decide) (by decide))) fun σ H Q q => ?_
                        obtain ⟨F, δ, g, s, sr, q⟩ := q
                        refine ⟨F, δ, g, s, sr, (Rest.bind q).mono fun w H1 q => ?_⟩
                        obtain ⟨F1, d, fp, gr, r, _, q⟩ := q
                        obtain ⟨y1, d0, e, rfl, _, q⟩ := inv r q
                        rw [hK] at e
                        cases e
                        have ec := ki.ec
                        have kU := ki.ve
                        rw [← c.kfr] at ec kU
                        have es : subX c0 "ValueError" = true := by unfold subX; simp
                        rw [es] at q
                        exact ⟨x1, oe, C0, .ty "ValueError", .type "ValueError", true, z, ec, hz, rfl, fun _ e => e, kU, q.sc gr.fh fun _ _ => .bl _⟩
                      · refine PE.imp (mk pe_no) fun σ H Q q => ?_
                        obtain ⟨F, δ, g, s, sr, q⟩ := q
                        refine ⟨F, δ, g, s, sr, (Rest.bind q).mono fun w H1 q => ?_⟩
                        obtain ⟨F1, d, fp, gr, r, _, q⟩ := q
                        obtain ⟨_, _, _, _, hh, _⟩ := inv r q
                        rcases Bool.or_eq_true_iff.mp hh with h | h
                        · exact absurd h ho
                        · exact absurd (of_decide_eq_true h) hv
                exact ⟨P, fun _ => PT.ofPE P rfl⟩
            | _ => cases h
    | _ => cases h
  | _ => cases h
theorem s_rng3 {a b : E} (ia : Snd N K k fn gl a) (ib : Snd N K k fn gl b) : Snd N K k fn gl (.rng3 a b) := by
  refine .ofPI fun {X W sc} c tg t x ht h => ?_
  unfold chI at h
  split at h <;> first | (rename_i e; cases e; done) | skip
  all_goals first | (cases h; done) | skip
  rename_i aa bb g p0 x y i jj p1 p2 p3 e
  cases e
  obtain ⟨h0, h1⟩ := and_t h
  obtain ⟨h1, h2⟩ := and_t h1
  obtain ⟨h2, h3⟩ := and_t h2
  obtain ⟨h3, h4⟩ := and_t h3
  obtain ⟨h4, h5⟩ := and_t h4
  obtain ⟨h5, h6⟩ := and_t h5
  have e0 : i = 1 := of_decide_eq_true h0
  have e1 : g = "range" := of_decide_eq_true h1
  subst e0 e1
  exact pi_rng3 rfl (c.glo h2).1 (c.mem (by decide)) (ia.pe c x h5).1 (ib.pe c y h6).1 h3 h4
theorem s_zip3 {a b d : E} (ia : Snd N K k fn gl a) (ib : Snd N K k fn gl b) (id : Snd N K k fn gl d) : Snd N K k fn gl (.zip3 a b d) := by
  refine .ofPI fun {X W sc} c tg t x ht h => ?_
  cases x with
  | Call fe xs kws p =>
    cases fe with
    | Name g p0 =>
      cases xs with
      | nil => cases h
      | cons x xs =>
        cases xs with
        | nil => cases h
        | cons y xs =>
          cases xs with
          | nil => cases h
          | cons z xs =>
            cases xs with
            | cons _ _ => cases h
            | nil =>
              cases kws with
              | cons _ _ => cases h
              | nil =>
                cases tg with
                | nm _ => cases h
                | tp is =>
                  obtain ⟨es, kk, tp, rfl⟩ := ht is rfl
                  obtain ⟨h1, h2⟩ := and_t h
                  obtain ⟨h2, h3⟩ := and_t h2
                  obtain ⟨h3, h4⟩ := and_t h3
                  obtain ⟨h4, h5⟩ := and_t h4
                  obtain ⟨h5, h6⟩ := and_t h5
                  obtain ⟨h6, h7⟩ := and_t h6
                  obtain ⟨h7, h8⟩ := and_t h7
                  have e : g = "zip" := of_decide_eq_true h1
                  subst e
                  exact pi_zp3 (c.glo h2).1 (c.mem (by decide)) c.kfr (ia.pe c x h6).1 (ib.pe c y h7).1 (id.pe c z h8).1 h3 h4 h5
    | _ => cases h
  | _ => cases h
theorem Rest.newD {W : WX} {σ : L2.St} {F H : Hp} {view : Bool} {Q : VK} {t : Bool} (h : Rest K W σ F H (.ok (.box true (if t then .dt [] else .dk []) [])) view Q) (s : Same F H) : ∀ p, H p = none → Q (.ref p) (upd H p (if t then .dT [] else .dK [])) := fun p n => by
  cases t with
  | true =>
    exact h _ _ _ [p] (Grow.new s n) (.own (k := .dt []) upd_same (.dt []) (not_frozen s n) .nil (fun z => nomatch z)) fun _ a ha => by
      rw [List.mem_singleton.mp ha]
      exact n
  | false =>
    exact h _ _ _ [p] (Grow.new s n) (.own (k := .dk []) upd_same (.dk []) (not_frozen s n) .nil (fun z => nomatch z)) fun _ a ha => by
      rw [List.mem_singleton.mp ha]
      exact n
theorem s_dn (t : Bool) : Snd N K k fn gl (.dn t) := by
  refine .ofPE fun {X W sc} c x h => ?_
  cases x with
  | Dict ks vs p =>
    cases ks with
    | cons _ _ => cases h
    | nil =>
      cases vs with
      | cons _ _ => cases h
      | nil =>
        have P : PE X (.Dict [] [] p) (tE K W (ev fn gl (.dn t)) (E.view (.dn t))) := by
          cases t with
          | true =>
            refine PE.imp pe_dnewT fun σ H Q q => ?_
            obtain ⟨F, δ, g, s, sr, q⟩ := q
            exact Rest.newD (t := true) q s
          | false =>
            refine PE.imp pe_dnewK fun σ H Q q => ?_
            obtain ⟨F, δ, g, s, sr, q⟩ := q
            exact Rest.newD (t := false) q s
        exact ⟨P, fun _ => PT.ofPE P rfl⟩
  | _ => cases h
theorem Rest.dct {W : WX} {σ : L2.St} {F H : Hp} {view : Bool} {Q : VK} {d : D} {r : Res D} {v : V} {f : List Addr} (q : Rest K W σ F H (if isDct d then r else .stuck) view Q) (s : Same F H) (rv : R K F H v d f) : (∃ a, v = .ref a ∧ IsD H a) ∧ Rest K W σ F H r view Q := by
  split at q
  · rename_i hd
    refine ⟨?_, q⟩
    unfold isDct at hd
    split at hd
    · obtain ⟨a, kvs, g, rfl, ha, _⟩ := rv.dk_inv s
      exact ⟨a, rfl, .inl ⟨kvs, .inl ha⟩⟩
    · obtain ⟨a, kvs, g, rfl, ha, _⟩ := rv.dt_inv s
      exact ⟨a, rfl, .inr ⟨kvs, .inl ha⟩⟩
    · cases hd
  · exact q.elim
theorem s_get {o a b : E} (io : Snd N K k fn gl o) (ia : Snd N K k fn gl a) (ib : Snd N K k fn gl b) : Snd N K k fn gl (.get o a b) := by
  refine .ofPE fun {X W sc} c x h => ?_
  cases x with
  | Call fe xs kws p =>
    cases fe with
    | Attribute x n ap =>
      cases xs with
      | nil => cases h
      | cons y xs =>
        cases xs with
        | nil => cases h
        | cons z xs =>
          cases xs with
          | cons _ _ => cases h
          | nil =>
            cases kws with
            | cons _ _ => cases h
            | nil =>
              obtain ⟨h1, h2⟩ := and_t h
              obtain ⟨h2, h3⟩ := and_t h2
              obtain ⟨h3, h4⟩ := and_t h3
              obtain ⟨h4, h5⟩ := and_t h4
              obtain ⟨h5, h6⟩ := and_t h5
              obtain ⟨h6, h7⟩ := and_t h6
              obtain ⟨h7, h8⟩ := and_t h7
              have e : n = "get" := of_decide_eq_true h1
              subst e
              have P : PE X (.Call (.Attribute x "get" ap) [y, z] [] p) (tE K W (ev fn gl (.get o a b)) (E.view (.get o a b))) := by
                have m : M2 X x "get" ap y z p := ⟨base_of h3, by rw [star_of h4, star_of h5]; rfl, h2, by rw [star_of h4, star_of h5]; rfl⟩
                refine PE.imp (pe_getN (by have := c.hu; omega) (io.pe c x h6).1 (ia.pe c y h7).1 (ib.pe c z h8).1 m) fun σ H Q q => ?_
                obtain ⟨F, δ, g, s, sr, q⟩ := q
                refine ⟨F, δ, g, s, sr, (Rest.bind q).mono fun v H1 q => ?_⟩
                obtain ⟨F1, d, fp, gr, r, _, q⟩ := q
                obtain ⟨⟨ad, rfl, hd⟩, q⟩ := Rest.dct q gr.fh r
                refine ⟨ad, rfl, hd, F1, δ, g, gr.fh, sr.grow gr, (Rest.bind q).mono fun w H2 q => ?_⟩
                obtain ⟨F2, d2, fp2, gr2, r2, _, q⟩ := q
                refine ⟨F2, δ, g, gr2.fh, sr.grow (gr.trans gr2), (Rest.bind q).mono fun u H3 q => ?_⟩
                obtain ⟨F3, d3, fp3, gr3, r3, _, q⟩ := q
                unfold getD at q
                split at q
                · rename_i ro er
                  obtain ⟨a', oo, ea, _, gg, hh⟩ := dget_ok gr3.fh (gr3.r (gr2.r r)) (gr3.r r2) er
                  cases ea
                  refine .inl ⟨oo, gg, ?_⟩
                  rcases hh with ⟨rfl, rfl⟩ | ⟨u2, d', g', rfl, rfl, k3, k4⟩
                  · exact q.ok (Grow.refl gr3.fh) r3 (fun z => nomatch z)
                  · exact q.ok (Grow.refl gr3.fh) k3 (fun z => nomatch z)
                · split at q
                  · rename_i hn
                    have hnn : d2 = .non ∧ ∃ o' ks' ds', d = .box o' (.dt ks') ds' := by
                      unfold noneT at hn
                      split at hn
                      · exact ⟨rfl, _, _, _, rfl⟩
                      · cases hn
                    obtain ⟨e2, o', ks', ds', e1⟩ := hnn
                    have rd := gr3.r (gr2.r r)
                    rw [e1] at rd
                    rw [e2] at r2
                    obtain ⟨a', kvs, g', ea, hkv, _⟩ := R.dt_inv gr3.fh rd
                    cases ea
                    exact .inr ⟨r2.non_inv, ⟨kvs, .inl hkv⟩, q.ok (Grow.refl gr3.fh) r3 (fun z => nomatch z)⟩
                  · exact q.elim
              exact ⟨P, fun _ => PT.ofPE P rfl⟩
    | _ => cases h
  | _ => cases h
theorem s_mz {m : Mz} {o : E} (io : Snd N K k fn gl o) : Snd N K k fn gl (.mz m o) := by
  refine .ofPE fun {X W sc} c x h => ?_
  cases x with
  | Call fe xs kws p =>
    cases fe with
    | Attribute x n ap =>
      cases xs with
      | cons _ _ => cases h
      | nil =>
        cases kws with
        | cons _ _ => cases h
        | nil =>
          obtain ⟨h1, h2⟩ := and_t h
          obtain ⟨h2, h3⟩ := and_t h2
          obtain ⟨h3, h4⟩ := and_t h3
          have e : n = mzName m := of_decide_eq_true h1
          subst e
          have P : PE X (.Call (.Attribute x (mzName m) ap) [] [] p) (tE K W (ev fn gl (.mz m o)) (E.view (.mz m o))) := by
            cases m with
            | upper =>
              refine PE.imp (pe_upper (io.pe c x h4).1 (base_of h3) h2) fun σ H Q q => ?_
              obtain ⟨F, δ, g, s, sr, q⟩ := q
              refine ⟨F, δ, g, s, sr, (Rest.bind q).mono fun v H1 q => ?_⟩
              obtain ⟨F1, d, fp, gr, r, _, q⟩ := q
              obtain ⟨k1, q⟩ := Rest.strb r q
              refine ⟨k1, ?_⟩
              cases d with
              | str a =>
                have q : Rest K W σ F1 H1 (if a.length ≤ 5592405 then .ok (.str (Txt.upper a)) else .stuck) false Q := q
                split at q
                · rename_i hl
                  exact ⟨a, r.str_inv, rfl, hl, q.sc gr.fh fun _ _ => .str _⟩
                · exact q.elim
              | _ => exact q.elim
          exact ⟨P, fun _ => PT.ofPE P rfl⟩
    | _ => cases h
  | _ => cases h
theorem s_fz {a : E} (io : Snd N K k fn gl a) : Snd N K k fn gl (.fz a) := by
  refine .ofPE fun {X W sc} c x h => ?_
  suffices plainT x = true → (!a.view && chE N sc a x) = true → PE X x (tE K W (ev fn gl (.fz a)) (E.view (.fz a))) ∧ (notIf x = true → PT X x (tT K W (ev fn gl (.fz a)))) by
    cases x with
    | Call f xs kws p => exact this rfl h
    | List xs p => exact this rfl h
    | _ => cases h
  intro hpl h
  obtain ⟨h2, h3⟩ := and_t h
  have hv : a.view = false := by simpa using h2
  have P : PE X x (tE K W (ev fn gl (.fz a)) (E.view (.fz a))) := by
    refine PE.imp (io.pe c _ h3).1 fun σ H Q q => ?_
    obtain ⟨F, δ, g, s, sr, q⟩ := q
    refine ⟨F, δ, g, s, sr, ?_⟩
    have q : Rest K W σ F H ((ev fn gl a δ).bind fun d => .ok d.frz) false Q := q
    rw [hv]
    cases e : ev fn gl a δ with
    | stuck => rw [e] at q; exact q
    | exc cc fs => rw [e] at q; exact q
    | ok d =>
      rw [e] at q
      have q : Rest K W σ F H (.ok d.frz) false Q := q
      intro v F' H' fp gr r n
      have nf : ∀ p ∈ fp, F' p = none := fun p hp => (r.there p hp).1
      have ff : Same F' (fun p => if p ∈ fp then H' p else F' p) := fun p o e => by
        have : p ∉ fp := fun z => by
          rw [nf p z] at e
          cases e
        exact (if_neg this).trans e
      refine q v (fun p => if p ∈ fp then H' p else F' p) H' [] ⟨gr.ff.trans ff, fun p o e => ?_, gr.hh, fun p hp => ?_⟩ (r.freeze ff fun p hp => if_pos hp) (fun _ _ z => nomatch z)
      · by_cases z : p ∈ fp
        · rw [if_pos z] at e
          exact e
        · rw [if_neg z] at e
          exact gr.fh p o e
      · have : p ∉ fp := fun z => hp (n rfl p z)
        exact (if_neg this).trans (gr.only p hp)
  exact ⟨P, fun _ => PT.ofPE P hpl⟩
theorem prKs_ok {F H : Hp} : ∀ {kvs : List (List Key × V)} {bs : List Addr} {ps : List (Int × Int)}, IsKeys H kvs bs → prKs (kvs.map (·.1)) = some ps → Rs K F H (bs.map V.ref) (ps.map prD) []
  | _, _, _, .nil, e => by
    cases e
    exact .nil
  | _, _, _, .cons h t, e => by
    rw [List.map_cons] at e
    unfold prKs at e
    split at e
    · rename_i h0; cases h0
    · rename_i i j ks e0
      injection e0 with e1 e2
      subst e2
      obtain ⟨ps', e3, rfl⟩ := Option.map_eq_some_iff.mp e
      refine .cons (f := []) (g := []) (.tup h ?_) (prKs_ok t e3) (fun _ z => nomatch z)
      rw [e1]
      exact .cons (f := []) (g := []) (.int i) (.cons (f := []) (g := []) (.int j) .nil (fun _ z => nomatch z)) (fun _ z => nomatch z)
    · cases e
theorem prs_back : ∀ ps : List (Int × Int), prsOf (ps.map prD) = some ps
  | [] => rfl
  | p :: ps => by
    show (prsOf (ps.map prD)).map ((p.1, p.2) :: ·) = _
    rw [prs_back ps]
    rfl
theorem s_skeys (hK : K.exc = none) {a : E} (ia : Snd N K k fn gl a) : Snd N K k fn gl (.skeys a) := by
  refine .ofPE fun {X W sc} c x h => ?_
  cases x with
  | Call fe xs kws p =>
    cases fe with
    | Name g p0 =>
      cases xs with
      | nil => cases h
      | cons x xs =>
        cases xs with
        | cons _ _ => exact absurd h (by cases x <;> first | (intro z; cases z; done) | (rename_i f a k p; cases f <;> cases a <;> cases k <;> intro z <;> cases z))
        | nil =>
          cases kws with
          | cons _ _ => exact absurd h (by cases x <;> first | (intro z; cases z; done) | (rename_i f a k p; cases f <;> cases a <;> cases k <;> intro z <;> cases z))
          | nil =>
            cases x with
            | Call fe2 xs2 kws2 p2 =>
              cases fe2 with
              | Attribute o n ap =>
                cases xs2 with
                | cons _ _ => cases h
                | nil =>
                  cases kws2 with
                  | cons _ _ => cases h
                  | nil =>
                    obtain ⟨h1, b1⟩ := and_t h
                    obtain ⟨h2, b2⟩ := and_t b1
                    obtain ⟨h3, b3⟩ := and_t b2
                    obtain ⟨h4, b4⟩ := and_t b3
                    obtain ⟨h5, h6⟩ := and_t b4
                    clear b1 b2 b3 b4
                    have e1 : g = "sorted" := of_decide_eq_true h1
                    have e2 : n = "keys" := of_decide_eq_true h3
                    subst e1 e2
                    have P : PE X (.Call (.Name "sorted" p0) [.Call (.Attribute o "keys" ap) [] [] p2] [] p) (tE K W (ev fn gl (.skeys a)) (E.view (.skeys a))) := by
                      refine PE.imp (pe_skeys (c.calm hK) (c.glo h2).1 (c.mem (by decide +kernel)) (ia.pe c o h6).1 (base_of h5) h4) fun σ H Q q => ?_
                      obtain ⟨F, δ, g, s, sr, q⟩ := q
                      refine ⟨F, δ, g, s, sr, (Rest.bind q).mono fun v H1 q => ?_⟩
                      obtain ⟨F1, d, fp, gr, r, _, q⟩ := q
                      unfold skeysD at q
                      split at q
                      · rename_i ow ks ds
                        obtain ⟨ps, ep, q2⟩ := rest_opt q
                        clear q
                        obtain ⟨ad, kvs, g0, rfl, hd, rfl, _, _⟩ := r.dt_inv gr.fh
                        refine ⟨ad, kvs, rfl, .inl hd, fun bs hb => ?_⟩
                        obtain ⟨kk, k1, k2⟩ := (prKs_ok (F := F1) (K := K) hb ep).prs (prs_back ps)
                        refine ⟨kk, k1, fun ys pp s1 s2 np => ?_⟩
                        have e3 : ys.map kk = sortP ps := by
                          rw [← k2]
                          exact pairs_uniq (s2.perm.map kk) (List.pairwise_map.mpr s1)
                        refine q2.newL gr.fh ?_ pp np
                        rw [← e3]
                        exact prs_rs kk ys fun x hx => k1 x (s2.perm.mem_iff.mp hx)
                      · exact q.elim
                    exact ⟨P, fun _ => PT.ofPE P rfl⟩
              | _ => cases h
            | _ => cases h
    | _ => cases h
  | _ => cases h
theorem R.ctup_at {F H : Hp} {v : V} {xs : List Str} {fp : List Addr} (h : R K F H v (.ctup xs) fp) : ∃ a, v = .ref a ∧ (∀ H, SqT K.fr H a (xs.map V.str)) ∧ ∃ o, K.fr.lookup a = some o ∧ o.cls = .type "tuple" ∧ o.dict = none := by
  cases h with
  | ctup xs h hd => exact ⟨_, rfl, h, hd⟩
theorem idx_ok {b : Str} : ∀ {ss : List Str} {j : Nat}, (ss.findIdx? fun y => decide (y = b)) = some j → ss[j]? = some b ∧ ∀ m, m < j → ss[m]? ≠ some b := fun {ss j} e => by
  obtain ⟨h, h1, h2⟩ := List.findIdx?_eq_some_iff_getElem.mp e
  refine ⟨?_, fun m hm z => ?_⟩
  · rw [List.getElem?_eq_getElem h]
    rw [of_decide_eq_true h1]
  · obtain ⟨hl, z⟩ := List.getElem?_eq_some_iff.mp z
    have := h2 m hm
    simp [z] at this
theorem s_lix {t : Bool} {o a : E} (io : Snd N K k fn gl o) (ia : Snd N K k fn gl a) : Snd N K k fn gl (.lix t o a) := by
  refine .ofPE fun {X W sc} c x h => ?_
  cases x with
  | Call fe xs kws p =>
    cases fe with
    | Attribute x n ap =>
      cases xs with
      | nil => cases h
      | cons y xs =>
        cases xs with
        | cons _ _ => cases h
        | nil =>
          cases kws with
          | cons _ _ => cases h
          | nil =>
            obtain ⟨h1, h2⟩ := and_t h
            obtain ⟨h2, h3⟩ := and_t h2
            obtain ⟨h3, h4⟩ := and_t h3
            obtain ⟨h4, h5⟩ := and_t h4
            obtain ⟨h5, h6⟩ := and_t h5
            have e : n = "index" := of_decide_eq_true h1
            subst e
            have few : ((backTo p (starEach [y] X.env)).all (fun x => !x.1) && (backToKw p (keywordEach [] X.env)).all (fun x => x.1.isSome)
                && decide (([y] : List Expr).length + ([] : List Keyword).length + (if ([] : List Keyword).isEmpty then 0 else 1) < 30)) = true := by rw [star_of h4]; rfl
            have P : PE X (.Call (.Attribute x "index" ap) [y] [] p) (tE K W (ev fn gl (.lix t o a)) (E.view (.lix t o a))) := by
              cases t with
              | false =>
                refine PE.imp (pe_bm (X := X) PySem.F.plainAttrs_list PySem.F.slot_list_index PySem.F.type_list_index mt_index (io.pe c x h5).1 (pa_cons (ia.pe c y h6).1 pa_nil (star_of h4)) (base_of h3) few h2 (star_of h4) rfl) fun σ H Q q => ?_
                rw [c.kfr]
                obtain ⟨F, δ, g, s, sr, q⟩ := q
                refine ⟨F, δ, g, s, sr, (Rest.bind q).mono fun v H1 q => ?_⟩
                obtain ⟨F1, d, fp, gr, r, _, q⟩ := q
                unfold lixK at q
                split at q
                · rename_i ow ds
                  rw [if_neg (by decide)] at q
                  obtain ⟨ad, vs, g1, rfl, hl, hs, _⟩ := r.lst_inv gr.fh
                  refine ⟨.inl ⟨rfl, _, SqL.of hl⟩, F1, δ, g, gr.fh, sr.grow gr, (Rest.bind q).mono fun w H2 q => ?_⟩
                  obtain ⟨F2, d2, fp2, gr2, r2, _, q⟩ := q
                  cases d2 with
                  | str b =>
                    have q : Rest K W σ F2 H2 (.opt ((idxB ds b).map fun j => .int (j : Nat))) false Q := q
                    obtain ⟨j, e, q⟩ := rest_opt q
                    obtain ⟨ss, e1, e2⟩ := Option.bind_eq_some_iff.mp e
                    have e3 := hs.strs e1
                    subst e3
                    obtain ⟨k1, k2⟩ := idx_ok e2
                    refine ⟨ad, _, w, j, .str b, rfl, rfl, SqL.of (gr2.hh _ _ hl), by rw [r2.str_inv]; rfl, ?_, by rw [List.getElem?_map, k1]; rfl, by rw [r2.str_inv]; exact beq_self_eq_true b, fun m z hm e => ?_, q.sc gr2.fh fun _ _ => .int _⟩
                    · exact List.all_eq_true.mpr fun z hz => by
                        obtain ⟨s0, _, rfl⟩ := List.mem_map.mp hz
                        rfl
                    · rw [List.getElem?_map] at e
                      cases e5 : ss[m]? with
                      | none => rw [e5] at e; cases e
                      | some s0 =>
                        rw [e5] at e
                        cases e
                        rw [r2.str_inv]
                        exact beq_eq_false_iff_ne.mpr fun z => k2 m hm (by rw [e5, z])
                  | _ => exact q.elim
                · rw [if_neg (by decide)] at q
                  exact q.elim
                · exact q.elim
              | true =>
                refine PE.imp (pe_bm (X := X) PySem.F.plainAttrs_tuple PySem.F.slot_tuple_index PySem.F.type_tuple_index mt_tup_index (io.pe c x h5).1 (pa_cons (ia.pe c y h6).1 pa_nil (star_of h4)) (base_of h3) few h2 (star_of h4) rfl) fun σ H Q q => ?_
                rw [c.kfr]
                obtain ⟨F, δ, g, s, sr, q⟩ := q
                refine ⟨F, δ, g, s, sr, (Rest.bind q).mono fun v H1 q => ?_⟩
                obtain ⟨F1, d, fp, gr, r, _, q⟩ := q
                unfold lixK at q
                split at q
                · rw [if_pos rfl] at q
                  exact q.elim
                · rename_i ss
                  rw [if_pos rfl] at q
                  obtain ⟨ad, rfl, ht, od, ol⟩ := r.ctup_at
                  refine ⟨.inr (.inl ⟨rfl, od, ol⟩), F1, δ, g, gr.fh, sr.grow gr, (Rest.bind q).mono fun w H2 q => ?_⟩
                  obtain ⟨F2, d2, fp2, gr2, r2, _, q⟩ := q
                  cases d2 with
                  | str b =>
                    have q : Rest K W σ F2 H2 (.opt ((ss.findIdx? fun y => decide (y = b)).map fun j => .int (j : Nat))) false Q := q
                    obtain ⟨j, e2, q⟩ := rest_opt q
                    obtain ⟨k1, k2⟩ := idx_ok e2
                    refine ⟨ad, ss, b, j, rfl, by rw [r2.str_inv], ht H2, k1, k2, q.sc gr2.fh fun _ _ => .int _⟩
                  | _ => exact q.elim
                · exact q.elim
            exact ⟨P, fun _ => PT.ofPE P rfl⟩
    | _ => cases h
  | _ => cases h
/-- THE LOOK IS RIGHT -/
theorem snd (hK : K.exc = none) : ∀ e : E, Snd N K k fn gl e
  | .loc i => s_loc i
  | .int i => s_int i
  | .str x => s_str x
  | .bl b => s_bl b
  | .non => s_non
  | .glb x => s_glb x
  | .bin o a b => s_bin (snd hK a) (snd hK b)
  | .neg a => s_neg (snd hK a)
  | .cmp o a b => s_cmp (snd hK a) (snd hK b)
  | .and_ a b => s_and (snd hK a) (snd hK b)
  | .or_ a b => s_or (snd hK a) (snd hK b)
  | .one a => s_one (snd hK a)
  | .not_ a => s_not (snd hK a)
  | .ite t a b => s_ite (snd hK t) (snd hK a) (snd hK b)
  | .ix a b => s_ix (snd hK a) (snd hK b)
  | .sl a lo hi => s_sl (snd hK a) (snd hK lo) (snd hK hi)
  | .rv a => s_rv (snd hK a)
  | .nil => s_nil
  | .cons a r => s_cons (snd hK a) (snd hK r)
  | .knil => s_knil
  | .kcons a r => s_kcons (snd hK a) (snd hK r)
  | .tup a => s_tup (snd hK a)
  | .lst a => s_lst (snd hK a)
  | .call f a => s_call hK (snd hK a)
  | .blt b a => s_blt hK (snd hK a)
  | .isi a t => s_isi (snd hK a)
  | .mth m o a => s_mth (snd hK o) (snd hK a)
  | .lc own tg src q e => s_lc hK (snd hK src) (snd hK q) (snd hK e)
  | .rng1 a => s_rng1 (snd hK a)
  | .rng2 a b => s_rng2 (snd hK a) (snd hK b)
  | .zip2 a b => s_zip2 (snd hK a) (snd hK b)
  | .enum a => s_enum (snd hK a)
  | .revd a => s_revd (snd hK a)
  | .rng3 a b => s_rng3 (snd hK a) (snd hK b)
  | .zip3 a b c => s_zip3 (snd hK a) (snd hK b) (snd hK c)
  | .dn t => s_dn t
  | .get o k x => s_get (snd hK o) (snd hK k) (snd hK x)
  | .mz m o => s_mz (snd hK o)
  | .fz a => s_fz (snd hK a)
  | .skeys a => s_skeys hK (snd hK a)
  | .lix t o a => s_lix (snd hK o) (snd hK a)
  | .isx a u => s_isx (snd hK a)
  | .lcl own tg src q e => s_lcl (snd hK src) (snd hK q) (snd hK e)
  | .fld a f => s_fld (snd hK a)
  | .ixt a b => s_ixt (snd hK a) (snd hK b)
  | .fl f => s_fl
  | .new c a => s_new hK (snd hK a)
  | .meth c m o a => s_meth hK (snd hK o) (snd hK a)
  | .dcp a => s_dcp hK (snd hK a)
/-- and while an exception is handled -/
theorem sndH {x1 : Addr} {c0 : Str} (hK : K.exc = some (x1, c0)) : ∀ e : E, hotE e = true → Snd N K k fn gl e
  | .loc i, _ => s_loc i
  | .int i, _ => s_int i
  | .str x, _ => s_str x
  | .bl b, _ => s_bl b
  | .non, _ => s_non
  | .bin o a b, h => s_bin (sndH hK a (and_t h).1) (sndH hK b (and_t h).2)
  | .one a, h => s_one (sndH hK a h)
  | .not_ a, h => s_not (sndH hK a h)
  | .nil, _ => s_nil
  | .cons a r, h => s_cons (sndH hK a (and_t h).1) (sndH hK r (and_t h).2)
  | .knil, _ => s_knil
  | .kcons a r, h => s_kcons (sndH hK a (and_t h).1) (sndH hK r (and_t h).2)
  | .tup a, h => s_tup (sndH hK a h)
  | .lst a, h => s_lst (sndH hK a h)
  | .call f a, h => s_callH hK (of_decide_eq_true (and_t h).1) (sndH hK a (and_t h).2)
  | .isx a u, h => s_isx (sndH hK a h)
  | .lcl own tg src q e, h => s_lcl (sndH hK src (and_t h).1) (sndH hK q (and_t (and_t h).2).1) (sndH hK e (and_t (and_t h).2).2)
end
end PX

/-! PX, part k: statements. -/
namespace PX
open PySem PySem.Spec PyProof.Rows L2

/-- how slots, heap and frozen part move on -/
structure Tr (F H : Hp) (g : Nat → List Addr) (F' H' : Hp) (g' : Nat → List Addr) : Prop where
  ff : Same F F'
  fh : Same F' H'
  hh : ∀ p, (∀ i, p ∉ g i) → ∀ o, H p = some o → H' p = some o
  only : ∀ p, (∀ i, p ∉ g i) → H p ≠ none → F' p = F p
  new : ∀ i p, p ∈ g' i → (∃ j, p ∈ g j) ∨ H p = none
theorem Tr.trans {F H F1 H1 F2 H2 : Hp} {g g1 g2 : Nat → List Addr} (a : Tr F H g F1 H1 g1) (b : Tr F1 H1 g1 F2 H2 g2) : Tr F H g F2 H2 g2 := by
  have un : ∀ p, (∀ i, p ∉ g i) → H p ≠ none → ∀ i, p ∉ g1 i := fun p h n i hi => by
    rcases a.new i p hi with ⟨j, hj⟩ | e
    · exact h j hj
    · exact n e
  refine ⟨a.ff.trans b.ff, b.fh, fun p h o e => ?_, fun p h n => ?_, fun i p hp => ?_⟩
  · have n : H p ≠ none := by rw [e]; simp
    exact b.hh p (un p h n) o (a.hh p h o e)
  · have n1 : H1 p ≠ none := by
      cases e : H p with
      | none => exact absurd e n
      | some o => rw [a.hh p h o e]; simp
    exact (b.only p (un p h n) n1).trans (a.only p h n)
  · rcases b.new i p hp with ⟨j, hj⟩ | e
    · exact a.new j p hj
    · by_cases ho : ∃ j, p ∈ g j
      · exact .inl ho
      · refine .inr ?_
        cases e2 : H p with
        | none => rfl
        | some o =>
          rw [a.hh p (fun i hi => ho ⟨i, hi⟩) o e2] at e
          cases e
theorem Tr.ofGrow {F H F' H' : Hp} {g g' : Nat → List Addr} (a : Grow F H F' H') (n : ∀ i p, p ∈ g' i → (∃ j, p ∈ g j) ∨ H p = none) : Tr F H g F' H' g' :=
  ⟨a.ff, a.fh, fun p _ o e => a.hh p o e, fun p _ n => a.only p n, n⟩
theorem Tr.refl {F H : Hp} {g : Nat → List Addr} (s : Same F H) : Tr F H g F H g := .ofGrow (Grow.refl s) fun i p hp => .inl ⟨i, hp⟩
/-- slots that keep their values -/
def Pn (P : Nat → Option V) (σ : L2.St) : Prop := ∀ i v, P i = some v → σ[i]? = some (some v)
theorem Pn.set {P : Nat → Option V} {σ : L2.St} (h : Pn P σ) {i : Nat} (n : P i = none) (v : Option V) : Pn P (σ.set i v) := fun j w e => by
  have : i ≠ j := fun z => by rw [z, e] at n; cases n
  rw [List.getElem?_set_ne this]
  exact h j w e
theorem wipe_get {i : Nat} : ∀ {own : List Nat} {σ : L2.St}, i ∉ own → (L2.wipe σ own)[i]? = σ[i]?
  | [], _, _ => rfl
  | v :: vs, σ, h => by
    show ((L2.wipe σ vs).set v none)[i]? = _
    rw [List.getElem?_set_ne (fun z => h (by rw [z]; exact List.mem_cons_self))]
    exact wipe_get fun z => h (List.mem_cons_of_mem _ z)
theorem Pn.wiped {P : Nat → Option V} {σ σ' : L2.St} {own : List Nat} (h : Pn P σ) (e : L2.wipe σ' own = L2.wipe σ own) (n : ∀ i ∈ own, P i = none) : Pn P σ' := fun j w ej => by
  have hj : j ∉ own := fun z => by rw [n j z] at ej; cases ej
  rw [← wipe_get hj, e, wipe_get hj]
  exact h j w ej
theorem Tr.newer {F H F1 H1 : Hp} {g g1 : Nat → List Addr} (t : Tr F H g F1 H1 g1) {p : Addr} (h : (∃ j, p ∈ g1 j) ∨ H1 p = none) : (∃ j, p ∈ g j) ∨ H p = none := by
  rcases h with ⟨j, hj⟩ | e
  · exact t.new j p hj
  · by_cases ho : ∃ j, p ∈ g j
    · exact .inl ho
    · refine .inr ?_
      cases e2 : H p with
      | none => rfl
      | some o =>
        rw [t.hh p (fun i hi => ho ⟨i, hi⟩) o e2] at e
        cases e
def RestS (K : Kx) (W : WX) (P : Nat → Option V) (F H : Hp) (g : Nat → List Addr) (o : Out) (D : Ends) : Prop :=
  match o with
  | .nx δ => ∀ F' σ' H' g', Tr F H g F' H' g' → SR K F' H' σ' δ g' → Pn P σ' → D.nx σ' H'
  | .bk δ => ∀ F' σ' H' g', Tr F H g F' H' g' → SR K F' H' σ' δ g' → Pn P σ' → D.bk σ' H'
  | .ct δ => ∀ F' σ' H' g', Tr F H g F' H' g' → SR K F' H' σ' δ g' → Pn P σ' → D.ct σ' H'
  | .rt d => ∀ v F' H' fp, Tr F H g F' H' (fun _ => fp) → R K F' H' v d fp → D.rt v H'
  | .rtx d δ => ∀ v F' σ' H' g' fp, Tr F H g F' H' g' → SR K F' H' σ' δ g' → Pn P σ' → R K F' H' v d fp → (∀ p ∈ fp, (∀ i, p ∉ g' i) ∧ ((∃ j, p ∈ g j) ∨ H p = none)) → D.rt v H'
  | .exc c fs δ => ∀ C d F' σ' H' g', K.ca c = some C → Tr F H g F' H' g' → SR K F' H' σ' δ g' → Pn P σ' → ExD fs d → W (.ref C) d σ' H'
  | .stuck => False
def tS (K : Kx) (W : WX) (P : Nat → Option V) (m : List D → Out) : TS := fun D σ H => ∃ F δ g, Same F H ∧ SR K F H σ δ g ∧ Pn P σ ∧ RestS K W P F H g (m δ) D
section
variable {X : Cx} {W : WX} {P : Nat → Option V} {K : Kx} {σ : L2.St} {F H : Hp} {view : Bool} {D : Ends} {δ : List PX.D} {g : Nat → List Addr}
theorem RestS.move {F1 H1 : Hp} {g1 : Nat → List Addr} {o : Out} (h : RestS K W P F H g o D) (t : Tr F H g F1 H1 g1) : RestS K W P F1 H1 g1 o D := by
  cases o with
  | nx δ => exact fun F' σ' H' g' b s => h F' σ' H' g' (t.trans b) s
  | bk δ => exact fun F' σ' H' g' b s => h F' σ' H' g' (t.trans b) s
  | ct δ => exact fun F' σ' H' g' b s => h F' σ' H' g' (t.trans b) s
  | rt d => exact fun v F' H' fp b s => h v F' H' fp (t.trans b) s
  | rtx d δ => exact fun v F' σ' H' g' fp b s hp r n => h v F' σ' H' g' fp (t.trans b) s hp r fun p hp => ⟨(n p hp).1, t.newer (n p hp).2⟩
  | exc c fs δ => exact fun C d F' σ' H' g' e b s q => h C d F' σ' H' g' e (t.trans b) s q
  | stuck => exact h
theorem RestS.thn {o : Out} {f : List PX.D → Out} (h : RestS K W P F H g (o.thn f) D) : RestS K W P F H g o { D with nx := tS K W P f D } := by
  cases o with
  | nx δ => exact fun F' σ' H' g' b s hp => ⟨F', δ, g', b.fh, s, hp, RestS.move (o := f δ) h b⟩
  | bk δ => exact h
  | ct δ => exact h
  | rt d => exact h
  | rtx d δ => exact h
  | exc c fs => exact h
  | stuck => exact h
/-- an evaluation ahead -/
theorem RestS.out {r : Res PX.D} {f : PX.D → Out} {va : Bool} (sr : SR K F H σ δ g) (hp : Pn P σ) (h : RestS K W P F H g (r.out δ f) D) : Rest K W σ F H r va fun v H1 => ∃ F1 x fp, Grow F H F1 H1 ∧ R K F1 H1 v x fp ∧ (va = false → ∀ p ∈ fp, H p = none) ∧ RestS K W P F H g (f x) D := by
  cases r with
  | ok d => exact fun v F' H' fp b q n => ⟨F', d, fp, b, q, n, h⟩
  | exc c fs => exact fun C d F' H' e b q => h C d F' σ H' g e (.ofGrow b fun i p hp => .inl ⟨i, hp⟩) (sr.grow b) hp q
  | stuck => exact h
theorem RestS.vl {r : Res PX.D} {f : PX.D → Out} {va : Bool} (sr : SR K F H σ δ g) (hp : Pn P σ) (h : RestS K W P F H g ((r.bind (vlD va)).out δ f) D) : Rest K W σ F H r va fun v H1 => ∃ F1 x fp, Grow F H F1 H1 ∧ R K F1 H1 v x fp ∧ (∀ p ∈ fp, H p = none) ∧ RestS K W P F H g (f x) D := by
  cases r with
  | ok d =>
    cases e : vlD va d with
    | ok d' =>
      obtain ⟨e1, e2⟩ := vl_ok e
      subst e1
      have h : RestS K W P F H g ((vlD va d').out δ f) D := h
      rw [e] at h
      exact fun v F' H' fp gr r n => ⟨F', d', fp, gr, r, vl_fresh e2 r n, h⟩
    | exc c fs => unfold vlD at e; split at e <;> cases e
    | stuck =>
      have h : RestS K W P F H g ((vlD va d).out δ f) D := h
      rw [e] at h
      exact h.elim
  | exc c fs => exact fun C d F' H' e b q => h C d F' σ H' g e (.ofGrow b fun i p hp => .inl ⟨i, hp⟩) (sr.grow b) hp q
  | stuck => exact h
theorem SR.fresh (s : SR K F H σ δ g) {p : Addr} (n : H p = none) : ∀ i, p ∉ g i := fun i hi => by
  obtain ⟨_, k, o, vs, e, _⟩ := s.own i p hi
  rw [n] at e
  cases e
theorem Tr.gset {F1 H1 : Hp} (gr : Grow F H F1 H1) {i : Nat} {fp : List Addr} (n : ∀ p ∈ fp, H p = none) : Tr F H g F1 H1 (gset g i fp) := .ofGrow gr fun j p hp => by
  by_cases e : j = i
  · subst e
    rw [gset_same] at hp
    exact .inr (n p hp)
  · rw [gset_ne e] at hp
    exact .inl ⟨j, hp⟩
/-- name = value -/
theorem im_asg {m : List PX.D → Res PX.D} {va : Bool} {i : Nat} (hi : P i = none) : ∀ D σ H, tS K W P (fun δ => ((m δ).bind (vlD va)).out δ fun d => .nx (δ.set i d)) D σ H → tAsg (tE K W m va) (gName i) D σ H := fun D σ H q => by
  obtain ⟨F, δ, g, s, sr, hp, q⟩ := q
  refine ⟨F, δ, g, s, sr, (RestS.vl sr hp q).mono fun v H1 q => ?_⟩
  obtain ⟨F1, x, fp, gr, r, n, q⟩ := q
  exact q F1 _ H1 _ (.gset gr n) ((sr.grow gr).set r fun p hp j _ => sr.fresh (n p hp) j) (hp.set hi _)
theorem nms_own : ∀ {is : List Nat} {vs : List V} {xs : List PX.D} {σ : L2.St} {δ : List PX.D} {g : Nat → List Addr} {fp : List Addr} {Qk : L2.St → Hp → Prop}, (∀ i ∈ is, P i = none) → Pn P σ → SR K F H σ δ g → Rs K F H vs xs fp → (∀ p ∈ fp, ∀ j, p ∉ g j) → vs.length = is.length →
    (∀ σ' g', SR K F H σ' (setAll δ is xs) g' → Pn P σ' → (∀ i p, p ∈ g' i → p ∈ fp ∨ ∃ j, p ∈ g j) → Qk σ' H) → gNms is vs σ H Qk
  | [], [], [], σ, δ, g, _, Qk, _, hP, s, _, _, _, k => ⟨rfl, k σ g s hP fun i p hp => .inr ⟨i, hp⟩⟩
  | [], _ :: _, _, _, _, _, _, _, _, _, _, _, _, h, _ => nomatch h
  | _ :: _, [], _, _, _, _, _, _, _, _, _, _, _, h, _ => nomatch h
  | [], [], _ :: _, _, _, _, _, _, _, _, _, r, _, _, _ => nomatch r
  | i :: is, v :: vs, [], _, _, _, _, _, _, _, _, r, _, _, _ => nomatch r
  | i :: is, v :: vs, x :: xs, σ, δ, g, fp, Qk, hn, hP, s, r, dj, h, k => by
    refine ⟨v, vs, rfl, ?_⟩
    cases r with
    | cons r1 r2 n =>
      refine nms_own (fun j hj => hn j (List.mem_cons_of_mem _ hj)) (hP.set (hn i List.mem_cons_self) _) (s.set r1 fun p hp j _ => dj p (List.mem_append_left _ hp) j) r2 (fun p hp j => ?_) (by simpa using h) fun σ' g' s' hP' kg => ?_
      · by_cases e : j = i
        · subst e
          rw [gset_same]
          exact fun z => n p z hp
        · rw [gset_ne e]
          exact dj p (List.mem_append_right _ hp) j
      · refine k σ' g' s' hP' fun j p hp => ?_
        rcases kg j p hp with z | ⟨j2, z⟩
        · exact .inl (List.mem_append_right _ z)
        · by_cases e : j2 = i
          · subst e
            rw [gset_same] at z
            exact .inl (List.mem_append_left _ z)
          · rw [gset_ne e] at z
            exact .inr ⟨j2, z⟩
theorem im_asgt {m : List PX.D → Res PX.D} {va : Bool} {is : List Nat} (hi : ∀ i ∈ is, P i = none) : ∀ D σ H, tS K W P (fun δ => ((m δ).bind (vlD va)).out δ fun d => match d with | .tup xs => if xs.length = is.length then .nx (setAll δ is xs) else .stuck | _ => .stuck) D σ H → tAsg (tE K W m va) (gTup K.fr is.length (gNms is)) D σ H := fun D σ H q => by
  obtain ⟨F, δ, g, s, sr, hp, q⟩ := q
  refine ⟨F, δ, g, s, sr, (RestS.vl sr hp q).mono fun v H1 q => ?_⟩
  obtain ⟨F1, x, fp, gr, r, n, q⟩ := q
  split at q
  · rename_i xs
    split at q
    · rename_i hl
      obtain ⟨a, vs, rfl, ht, hs⟩ := r.tup_inv
      have hl' : vs.length = is.length := by rw [hs.length]; exact hl
      refine ⟨a, vs, rfl, ht, hl', nms_own hi hp (sr.grow gr) hs (fun p hp j => sr.fresh (n p hp) j) hl' fun σ' g' s' hp' kg => ?_⟩
      refine q F1 σ' H1 g' (.ofGrow gr fun i p hp => ?_) s' hp'
      rcases kg i p hp with z | z
      · exact .inr (n p z)
      · exact .inl z
    · exact q.elim
  · exact q.elim
theorem R.updL {a : Addr} {l l' : List V} {v : V} {d : PX.D} {fp : List Addr} (r : R K F H v d fp) (h : H a = some (.lst l)) (n : a ∉ fp) : R K F (upd H a (.lst l')) v d fp :=
  r.mono (Same.refl F) (fun _ _ => updL_t h) fun p hp => ⟨upd_ne fun e => n (e ▸ hp), (r.there p hp).1⟩
/-- an owned list is rewritten -/
theorem SR.putL (s : SR K F H σ δ g) {i : Nat} {a : Addr} {l vs : List V} {ds : List PX.D} {fp : List Addr} (hv : σ[i]? = some (some (.ref a))) (ha : a ∈ g i) (hl : H a = some (.lst l)) (rs : Rs K F H vs ds fp) (na : a ∉ fp) (dj : ∀ p ∈ fp, ∀ j, j ≠ i → p ∉ g j) :
    SR K F (upd H a (.lst vs)) σ (δ.set i (.box true .lst ds)) (gset g i (a :: fp)) := by
  have r1 : R K F (upd H a (.lst vs)) (.ref a) (.box true .lst ds) (a :: fp) := .own (k := .lst) upd_same (.lst vs) (s.own i a ha).1 (rs.updL hl na) na
  have dj2 : ∀ p ∈ a :: fp, ∀ j, j ≠ i → p ∉ g j := fun p hp j hj => by
    rcases List.mem_cons.mp hp with rfl | hp
    · exact fun z => s.dis i j (fun e => hj e.symm) p ha z
    · exact dj p hp j hj
  refine ⟨by rw [List.length_set]; exact s.len, fun j e he hd => ?_, fun j k hjk p hp hq => ?_, fun j p hp => ?_⟩
  · by_cases hij : i = j
    · subst hij
      have hlt : i < δ.length := by
        have := (List.getElem?_eq_some_iff.mp he).1
        simpa using this
      rw [List.getElem?_set_self hlt] at he
      cases he
      rw [gset_same]
      exact ⟨_, hv, r1⟩
    · rw [List.getElem?_set_ne hij] at he
      obtain ⟨v, e1, r⟩ := s.rel j e he hd
      rw [gset_ne (fun z => hij z.symm)]
      exact ⟨v, e1, r.updL hl fun z => s.dis i j hij a ha z⟩
  · by_cases h1 : j = i
    · subst h1
      rw [gset_same] at hp
      rw [gset_ne (fun z => hjk z.symm)] at hq
      exact dj2 p hp k (fun z => hjk z.symm) hq
    · rw [gset_ne h1] at hp
      by_cases h2 : k = i
      · subst h2
        rw [gset_same] at hq
        exact dj2 p hq j h1 hp
      · rw [gset_ne h2] at hq
        exact s.dis j k hjk p hp hq
  · by_cases h1 : j = i
    · subst h1
      rw [gset_same] at hp
      exact r1.there p hp
    · rw [gset_ne h1] at hp
      obtain ⟨e, k, o, vs, e2, hk⟩ := s.own j p hp
      refine ⟨e, k, o, vs, ?_, hk⟩
      rw [upd_ne (fun z => by subst z; exact s.dis i j (fun z => h1 z.symm) p ha hp)]
      exact e2
theorem Tr.putL {F1 H1 : Hp} (gr : Grow F H F1 H1) {i : Nat} {a : Addr} {vs : List V} {fp : List Addr} (ha : a ∈ g i) (hf : F a = none) (hn : H a ≠ none) (n : ∀ p ∈ fp, p ∈ g i ∨ H p = none) : Tr F H g F1 (upd H1 a (.lst vs)) (PX.gset g i (a :: fp)) := by
  refine ⟨gr.ff, fun p o e => ?_, fun p h o e => ?_, fun p _ n => gr.only p n, fun j p hp => ?_⟩
  · rw [upd_ne (fun z => by
      subst z
      rw [gr.only p hn, hf] at e
      cases e)]
    exact gr.fh p o e
  · rw [upd_ne (fun z => by subst z; exact h i ha)]
    exact gr.hh p o e
  · by_cases e : j = i
    · subst e
      rw [gset_same] at hp
      rcases List.mem_cons.mp hp with rfl | hp
      · exact .inl ⟨j, ha⟩
      · rcases n p hp with z | z
        · exact .inl ⟨j, z⟩
        · exact .inr z
    · rw [gset_ne e] at hp
      exact .inl ⟨j, hp⟩
/-- the slot's own list -/
theorem SR.ownL (s : SR K F H σ δ g) {i : Nat} {xs : List PX.D} (e : δ[i]? = some (.box true .lst xs)) : ∃ a vs fp, σ[i]? = some (some (.ref a)) ∧ g i = a :: fp ∧ H a = some (.lst vs) ∧ Rs K F H vs xs fp ∧ a ∉ fp := by
  obtain ⟨v, ev, r⟩ := s.rel i _ e (fun z => nomatch z)
  generalize eg : g i = gi at r
  cases r with
  | own h hk nf hs na =>
    cases hk
    exact ⟨_, _, _, ev, rfl, h, hs, na⟩
/-- x.append(v) -/
theorem im_app {m : List PX.D → Res PX.D} {va : Bool} {i : Nat} : ∀ D σ H, tS K W P (fun δ => match δ[i]? with
    | some (.box true .lst xs) => ((m δ).bind (vlD va)).out δ fun d => if xs.length < sizeLine then .nx (δ.set i (.box true .lst (xs ++ [d]))) else .stuck
    | _ => .stuck) D σ H → tDrop (tBM K.fr "list" rAppend (tVar i) (tCons (tE K W m va) tNil)) D σ H := fun D σ H q => by
  obtain ⟨F, δ, g, s, sr, hp, q⟩ := q
  dsimp only at q
  split at q
  · rename_i xs e
    obtain ⟨a, vs, fp0, ev, eg, hl, rs, na⟩ := sr.ownL e
    refine ⟨.ref a, ev, .inl ⟨rfl, _, SqL.of hl⟩, F, δ, g, s, sr, (RestS.vl sr hp q).mono fun y H1 q => ?_⟩
    obtain ⟨F1, x, fp, gr, r, n, q⟩ := q
    split at q
    · rename_i hz
      have hl1 := gr.hh _ _ hl
      have ha : a ∈ g i := by rw [eg]; exact List.mem_cons_self
      have sub : ∀ p ∈ fp0, p ∈ g i := fun p hp => by rw [eg]; exact List.mem_cons_of_mem _ hp
      have rs2 := Rs.app (gr.rs rs) (Rs.one r) fun p hp hq => sr.fresh (n p hq) i (sub p hp)
      refine ⟨a, vs, y, rfl, rfl, hl1, by rw [rs.length]; exact hz, q F1 σ _ _ (Tr.putL gr ha (sr.own i a ha).1 (by rw [hl]; simp) (fp := fp0 ++ fp) fun p hp => ?_) ((sr.grow gr).putL ev ha hl1 rs2 ?_ fun p hp j hj => ?_) hp⟩
      · rcases List.mem_append.mp hp with z | z
        · exact .inl (sub p z)
        · exact .inr (n p z)
      · intro z
        rcases List.mem_append.mp z with z | z
        · exact na z
        · exact sr.fresh (n a z) i ha
      · rcases List.mem_append.mp hp with z | z
        · exact fun z2 => sr.dis i j (fun e => hj e.symm) p (sub p z) z2
        · exact sr.fresh (n p z) j
    · exact q.elim
  · exact q.elim
theorem im_ret {m : List PX.D → Res PX.D} {va : Bool} : ∀ D σ H, tS K W P (fun δ => ((m δ).bind (vlD va)).out δ .rt) D σ H → tRet (tE K W m va) D σ H := fun D σ H q => by
  obtain ⟨F, δ, g, s, sr, hp, q⟩ := q
  refine ⟨F, δ, g, s, sr, (RestS.vl sr hp q).mono fun y H1 q => ?_⟩
  obtain ⟨F1, x, fp, gr, r, n, q⟩ := q
  exact q y F1 H1 fp (.ofGrow gr fun i p hp => .inr (n p hp)) r
theorem im_retv {i : Nat} : ∀ D σ H, tS K W P (fun δ => match δ[i]? with | some .dead => .stuck | some d => .rt d | none => .stuck) D σ H → tRet (tVar i) D σ H := fun D σ H q => by
  obtain ⟨F, δ, g, s, sr, hp, q⟩ := q
  dsimp only at q
  split at q
  · exact q.elim
  · rename_i d hd e
    obtain ⟨v, ev, r⟩ := sr.rel i d e (fun z => hd (by rw [z]))
    exact ⟨v, ev, q v F H (g i) (.ofGrow (Grow.refl s) fun _ p hp => .inl ⟨i, hp⟩) r⟩
  · exact q.elim
theorem im_drop {m : List PX.D → Res PX.D} {va : Bool} : ∀ D σ H, tS K W P (fun δ => (m δ).out δ fun _ => .nx δ) D σ H → tDrop (tE K W m va) D σ H := fun D σ H q => by
  obtain ⟨F, δ, g, s, sr, hp, q⟩ := q
  refine ⟨F, δ, g, s, sr, (RestS.out sr hp q).mono fun y H1 q => ?_⟩
  obtain ⟨F1, x, fp, gr, r, n, q⟩ := q
  exact q F1 σ H1 g (.ofGrow gr fun i p hp => .inl ⟨i, hp⟩) (sr.grow gr) hp
theorem im_if {m : List PX.D → Res PX.D} {ma mb : List PX.D → Out} : ∀ D σ H, tS K W P (fun δ => (m δ).out δ fun d => cndO d (ma δ) (mb δ)) D σ H → tIfS (tT K W m) (tS K W P ma) (tS K W P mb) D σ H := fun D σ H q => by
  obtain ⟨F, δ, g, s, sr, hp, q⟩ := q
  have q : RestS K W P F H g ((m δ).out δ fun d => cndO d (ma δ) (mb δ)) D := q
  refine ⟨F, δ, g, s, sr, ?_⟩
  cases e : m δ with
  | stuck => rw [e] at q; exact q
  | exc c fs =>
    rw [e] at q
    exact fun C d F' H' e b q2 => q C d F' σ H' g e (.ofGrow b fun i p hp => .inl ⟨i, hp⟩) (sr.grow b) hp q2
  | ok d =>
    rw [e] at q
    cases d with
    | bl b =>
      intro F' H' gr
      have t : Tr F H g F' H' g := .ofGrow gr fun i p hp => .inl ⟨i, hp⟩
      cases b with
      | true =>
        rw [if_pos rfl]
        exact ⟨F', δ, g, gr.fh, sr.grow gr, hp, RestS.move (o := ma δ) q t⟩
      | false =>
        rw [if_neg (by simp)]
        exact ⟨F', δ, g, gr.fh, sr.grow gr, hp, RestS.move (o := mb δ) q t⟩
    | _ => exact q.elim
/-- frozen on the spot -/
theorem freeze_ok (s : Same F H) (sr : SR K F H σ δ g) {i : Nat} {d : PX.D} (e : δ[i]? = some d) : ∃ F' g', Tr F H g F' H g' ∧ SR K F' H σ (δ.set i d.frz) g' := by
  refine ⟨fun p => if p ∈ g i then H p else F p, gset g i [], ⟨fun p o e => ?_, fun p o e => ?_, fun _ _ _ e => e, fun p h _ => if_neg (h i), fun j p hp => ?_⟩, ?_⟩
  · have : p ∉ g i := fun z => by
      rw [(sr.own i p z).1] at e
      cases e
    exact (if_neg this).trans e
  · by_cases z : p ∈ g i
    · rw [if_pos z] at e
      exact e
    · rw [if_neg z] at e
      exact s p o e
  · by_cases z : j = i
    · subst z; rw [gset_same] at hp; cases hp
    · rw [gset_ne z] at hp
      exact .inl ⟨j, hp⟩
  · have ff : Same F (fun p => if p ∈ g i then H p else F p) := fun p o e => by
      have : p ∉ g i := fun z => by
        rw [(sr.own i p z).1] at e
        cases e
      exact (if_neg this).trans e
    refine ⟨by rw [List.length_set]; exact sr.len, fun j c he hd => ?_, fun j k hjk p hp hq => ?_, fun j p hp => ?_⟩
    · by_cases hij : i = j
      · subst hij
        have hlt : i < δ.length := by
          have := (List.getElem?_eq_some_iff.mp he).1
          simpa using this
        rw [List.getElem?_set_self hlt] at he
        cases he
        have hd2 : d ≠ .dead := fun z => hd (by rw [z]; unfold D.frz; rfl)
        obtain ⟨v, ev, r⟩ := sr.rel i d e hd2
        rw [gset_same]
        exact ⟨v, ev, r.freeze ff fun p hp => if_pos hp⟩
      · rw [List.getElem?_set_ne hij] at he
        obtain ⟨v, ev, r⟩ := sr.rel j c he hd
        rw [gset_ne (fun z => hij z.symm)]
        exact ⟨v, ev, r.mono ff (fun _ _ h => h) fun p hp => ⟨rfl, (if_neg fun z => sr.dis i j hij p z hp).trans (sr.own j p hp).1⟩⟩
    · by_cases h1 : j = i
      · subst h1; rw [gset_same] at hp; cases hp
      · rw [gset_ne h1] at hp
        by_cases h2 : k = i
        · subst h2; rw [gset_same] at hq; cases hq
        · rw [gset_ne h2] at hq
          exact sr.dis j k hjk p hp hq
    · by_cases h1 : j = i
      · subst h1; rw [gset_same] at hp; cases hp
      · rw [gset_ne h1] at hp
        exact ⟨(if_neg fun z => sr.dis i j (fun z => h1 z.symm) p z hp).trans (sr.own j p hp).1, (sr.own j p hp).2⟩
theorem im_frz {i : Nat} {f : List PX.D → Out} : ∀ D σ H, tS K W P (fun δ => (match δ[i]? with | some d => Out.nx (δ.set i d.frz) | none => .stuck).thn f) D σ H → tS K W P f D σ H := fun D σ H q => by
  obtain ⟨F, δ, g, s, sr, hp, q⟩ := q
  have q : RestS K W P F H g ((match δ[i]? with | some d => Out.nx (δ.set i d.frz) | none => .stuck).thn f) D := q
  split at q
  · rename_i d e
    obtain ⟨F', g', t, sr'⟩ := freeze_ok s sr e
    exact ⟨F', _, g', t.fh, sr', hp, RestS.move (o := f (δ.set i d.frz)) q t⟩
  · exact q.elim
/-- a slot is forgotten -/
theorem SR.kill (sr : SR K F H σ δ g) (i : Nat) : SR K F H σ (δ.set i .dead) (gset g i []) := by
  refine ⟨by rw [List.length_set]; exact sr.len, fun j c he hd => ?_, fun j k hjk p hp hq => ?_, fun j p hp => ?_⟩
  · by_cases hij : i = j
    · subst hij
      rw [List.getElem?_set] at he
      rw [if_pos rfl] at he
      split at he
      · cases he; exact absurd rfl hd
      · cases he
    · rw [List.getElem?_set_ne hij] at he
      rw [gset_ne (fun z => hij z.symm)]
      exact sr.rel j c he hd
  · by_cases h1 : j = i
    · subst h1; rw [gset_same] at hp; cases hp
    · rw [gset_ne h1] at hp
      by_cases h2 : k = i
      · subst h2; rw [gset_same] at hq; cases hq
      · rw [gset_ne h2] at hq
        exact sr.dis j k hjk p hp hq
  · by_cases h1 : j = i
    · subst h1; rw [gset_same] at hp; cases hp
    · rw [gset_ne h1] at hp
      exact sr.own j p hp
theorem im_kill {i : Nat} {f : List PX.D → Out} : ∀ D σ H, tS K W P (fun δ => (Out.nx (δ.set i .dead)).thn f) D σ H → tS K W P f D σ H := fun D σ H q => by
  obtain ⟨F, δ, g, s, sr, hp, q⟩ := q
  refine ⟨F, _, gset g i [], s, sr.kill i, hp, RestS.move (o := f (δ.set i .dead)) q (.ofGrow (Grow.refl s) fun j p hp => ?_)⟩
  by_cases e : j = i
  · subst e; rw [gset_same] at hp; cases hp
  · rw [gset_ne e] at hp; exact .inl ⟨j, hp⟩

/-! ### boxes within boxes -/
/-- the items of an object -/
def itV : HO → List V
  | .lst vs => vs
  | .tup vs => vs
  | .dK kvs => kvs.map (·.2)
  | .dT kvs => kvs.map (·.2)
  | .ins _ _ fs => fs.map (·.2)
  | _ => []
theorem HK.items {k : Kind} {o : HO} {vs : List V} (h : HK K k o vs) : itV o = vs := by cases h <;> rfl
theorem HK.not_tup {k : Kind} {o : HO} {vs ys : List V} (h : HK K k o vs) : o ≠ .tup ys := by cases h <;> intro z <;> cases z
/-- w is found from v along the items js -/
inductive AtV (H : Hp) : V → List Nat → V → Prop
  | nil {v : V} : AtV H v [] v
  | cons {a : Addr} {o : HO} {j : Nat} {js : List Nat} {v w : V} : H a = some o → (itV o)[j]? = some v → AtV H v js w → AtV H (.ref a) (j :: js) w
theorem AtV.mono {H H' : Hp} (s : Same H H') {v w : V} {js : List Nat} (h : AtV H v js w) : AtV H' v js w := by
  induction h with
  | nil => exact .nil
  | cons h e _ ih => exact .cons (s _ _ h) e ih
theorem AtV.uniq {H : Hp} {v w w' : V} {js : List Nat} (h : AtV H v js w) (h' : AtV H v js w') : w = w' := by
  induction h with
  | nil => cases h'; rfl
  | cons h e _ ih =>
    cases h' with
    | cons h2 e2 k2 =>
      rw [h] at h2
      cases h2
      rw [e] at e2
      cases e2
      exact ih k2
theorem AtV.snoc {H : Hp} {v w u : V} {js : List Nat} {j : Nat} (h : AtV H v js w) (k : AtV H w [j] u) : AtV H v (js ++ [j]) u := by
  induction h with
  | nil => exact k
  | cons h e _ ih => exact .cons h e (ih k)
/-- one item is exchanged, seen from the list -/
theorem Rs.focus : ∀ {vs : List V} {ds : List PX.D} {fp : List Addr}, Rs K F H vs ds fp → ∀ {j : Nat} {d1 : PX.D}, ds[j]? = some d1 → ∃ v1 f1, vs[j]? = some v1 ∧ R K F H v1 d1 f1 ∧ (∀ p ∈ f1, p ∈ fp) ∧
    ∀ (F' H' : Hp) (v2 : V) (d2 : PX.D) (f2 : List Addr), Same F F' → (∀ a vs, H a = some (.tup vs) → H' a = some (.tup vs)) → (∀ p ∈ fp, p ∉ f1 → H' p = H p ∧ F' p = none) → R K F' H' v2 d2 f2 → (∀ p ∈ f2, p ∈ f1 ∨ p ∉ fp) →
      ∃ f', Rs K F' H' (vs.set j v2) (ds.set j d2) f' ∧ ∀ p ∈ f', (p ∈ fp ∧ p ∉ f1) ∨ p ∈ f2
  | _, _, _, .nil, j, d1, e => by simp at e
  | _, _, _, .cons (f := f) (g := g) r rs n, 0, d1, e => by
    simp at e
    subst e
    refine ⟨_, f, rfl, r, fun p hp => List.mem_append_left _ hp, fun F' H' v2 d2 f2 hF hT k r2 n2 => ⟨f2 ++ g, ?_, fun p hp => ?_⟩⟩
    · refine .cons r2 (rs.mono hF hT fun p hp => k p (List.mem_append_right _ hp) fun z => n p z hp) fun p hp hq => ?_
      rcases n2 p hp with z | z
      · exact n p z hq
      · exact z (List.mem_append_right _ hq)
    · rcases List.mem_append.mp hp with z | z
      · exact .inr z
      · exact .inl ⟨List.mem_append_right _ z, fun q => n p q z⟩
  | _, _, _, .cons (f := f) (g := g) r rs n, j + 1, d1, e => by
    obtain ⟨v1, f1, e1, r1, sub, rb⟩ := Rs.focus rs (j := j) (d1 := d1) (by simpa using e)
    refine ⟨v1, f1, by simpa using e1, r1, fun p hp => List.mem_append_right _ (sub p hp), fun F' H' v2 d2 f2 hF hT k r2 n2 => ?_⟩
    have off : ∀ p ∈ f, p ∉ f1 := fun p hp z => n p hp (sub p z)
    obtain ⟨f', k1, k2⟩ := rb F' H' v2 d2 f2 hF hT (fun p hp => k p (List.mem_append_right _ hp)) r2 fun p hp => by
      rcases n2 p hp with z | z
      · exact .inl z
      · exact .inr fun q => z (List.mem_append_right _ q)
    refine ⟨f ++ f', .cons (r.mono hF hT fun p hp => k p (List.mem_append_left _ hp) (off p hp)) k1 fun p hp hq => ?_, fun p hp => ?_⟩
    · rcases k2 p hq with ⟨z, _⟩ | z
      · exact n p hp z
      · rcases n2 p z with y | y
        · exact off p hp y
        · exact y (List.mem_append_left _ hp)
    · rcases List.mem_append.mp hp with z | z
      · exact .inl ⟨List.mem_append_left _ z, off p z⟩
      · rcases k2 p z with ⟨y, y2⟩ | y
        · exact .inl ⟨List.mem_append_right _ y, y2⟩
        · exact .inr y
theorem set_same {α : Type} {xs : List α} {j : Nat} {x : α} (h : xs[j]? = some x) : xs.set j x = xs := by
  refine List.ext_getElem? fun i => ?_
  by_cases e : j = i
  · subst e
    have := (List.getElem?_eq_some_iff.mp h).1
    rw [List.getElem?_set_self this, h]
  · rw [List.getElem?_set_ne e]
/-- one item is exchanged, seen from the box -/
theorem R.focus1 {v : V} {d d1 : PX.D} {fp : List Addr} {j : Nat} (r : R K F H v d fp) (e : kidD d j = some d1) : ∃ v1 f1, AtV H v [j] v1 ∧ R K F H v1 d1 f1 ∧ (∀ p ∈ f1, p ∈ fp) ∧
    ∀ (F' H' : Hp) (d2 : PX.D) (f2 : List Addr), Same F F' → (∀ a vs, H a = some (.tup vs) → H' a = some (.tup vs)) → (∀ p ∈ fp, p ∉ f1 → H' p = H p ∧ F' p = none) → R K F' H' v1 d2 f2 → (∀ p ∈ f2, p ∈ f1 ∨ p ∉ fp) →
      ∃ f', R K F' H' v (putD d j d2) f' ∧ ∀ p ∈ f', (p ∈ fp ∧ p ∉ f1) ∨ p ∈ f2 := by
  cases r with
  | tup h hs =>
    have e : _[j]? = some d1 := e
    obtain ⟨v1, f1, e1, r1, sub, rb⟩ := Rs.focus hs e
    refine ⟨v1, f1, .cons h e1 .nil, r1, sub, fun F' H' d2 f2 hF hT k r2 n2 => ?_⟩
    obtain ⟨f', k1, k2⟩ := rb F' H' v1 d2 f2 hF hT k r2 n2
    rw [set_same e1] at k1
    exact ⟨f', .tup (hT _ _ h) k1, k2⟩
  | own h hk n hs na =>
    rename_i a kd o vs ds f0
    have e : ds[j]? = some d1 := e
    obtain ⟨v1, f1, e1, r1, sub, rb⟩ := Rs.focus hs e
    refine ⟨v1, f1, .cons h (by rw [hk.items]; exact e1) .nil, r1, fun p hp => List.mem_cons_of_mem _ (sub p hp), fun F' H' d2 f2 hF hT k r2 n2 => ?_⟩
    obtain ⟨f', k1, k2⟩ := rb F' H' v1 d2 f2 hF hT (fun p hp => k p (List.mem_cons_of_mem _ hp)) r2 fun p hp => by
      rcases n2 p hp with z | z
      · exact .inl z
      · exact .inr fun q => z (List.mem_cons_of_mem _ q)
    rw [set_same e1] at k1
    have off : a ∉ f1 := fun z => na (sub _ z)
    obtain ⟨h1, h2⟩ := k a List.mem_cons_self off
    refine ⟨a :: f', .own (h1.trans h) hk h2 k1 fun z => ?_, fun p hp => ?_⟩
    · rcases k2 _ z with ⟨y, _⟩ | y
      · exact na y
      · rcases n2 _ y with w | w
        · exact off w
        · exact w List.mem_cons_self
    · rcases List.mem_cons.mp hp with rfl | z
      · exact .inl ⟨List.mem_cons_self, off⟩
      · rcases k2 p z with ⟨y, y2⟩ | y
        · exact .inl ⟨List.mem_cons_of_mem _ y, y2⟩
        · exact .inr y
  | _ => cases e
/-- a box within is exchanged, seen from the outermost -/
theorem R.focus : ∀ {js : List Nat} {v : V} {d d1 : PX.D} {fp : List Addr}, R K F H v d fp → atP d js = some d1 → ∃ v1 f1, AtV H v js v1 ∧ R K F H v1 d1 f1 ∧ (∀ p ∈ f1, p ∈ fp) ∧
    ∀ (F' H' : Hp) (d2 : PX.D) (f2 : List Addr), Same F F' → (∀ a vs, H a = some (.tup vs) → H' a = some (.tup vs)) → (∀ p ∈ fp, p ∉ f1 → H' p = H p ∧ F' p = none) → R K F' H' v1 d2 f2 → (∀ p ∈ f2, p ∈ f1 ∨ p ∉ fp) →
      ∃ f', R K F' H' v (setP d js d2) f' ∧ ∀ p ∈ f', (p ∈ fp ∧ p ∉ f1) ∨ p ∈ f2
  | [], v, d, d1, fp, r, e => by
    cases e
    refine ⟨v, fp, .nil, r, fun _ z => z, fun F' H' d2 f2 _ _ _ r2 n2 => ⟨f2, r2, fun p hp => .inr hp⟩⟩
  | j :: js, v, d, d1, fp, r, e => by
    have e : (kidD d j).bind (fun d' => atP d' js) = some d1 := e
    cases q : kidD d j with
    | none => rw [q] at e; cases e
    | some dk =>
      rw [q] at e
      have e : atP dk js = some d1 := e
      obtain ⟨vk, fk, ak, rk, sk, rbk⟩ := R.focus1 r q
      obtain ⟨v1, f1, a1, r1, s1, rb1⟩ := R.focus rk e
      have at_ : AtV H v (j :: js) v1 := by
        cases ak with
        | cons h e2 k => cases k; exact .cons h e2 a1
      refine ⟨v1, f1, at_, r1, fun p hp => sk p (s1 p hp), fun F' H' d2 f2 hF hT k r2 n2 => ?_⟩
      obtain ⟨f', k1, k2⟩ := rb1 F' H' d2 f2 hF hT (fun p hp n => k p (sk p hp) n) r2 fun p hp => by
        rcases n2 p hp with z | z
        · exact .inl z
        · exact .inr fun q => z (sk p q)
      obtain ⟨f'', k3, k4⟩ := rbk F' H' (setP dk js d2) f' hF hT (fun p hp n => k p hp fun z => n (s1 p z)) k1 fun p hp => by
        rcases k2 p hp with ⟨y, _⟩ | y
        · exact .inl y
        · rcases n2 p y with w | w
          · exact .inl (s1 p w)
          · exact .inr w
      have eq : setP d (j :: js) d2 = putD d j (setP dk js d2) := by
        show (match kidD d j with | some d' => putD d j (setP d' js d2) | none => d) = _
        rw [q]
      rw [eq]
      refine ⟨f'', k3, fun p hp => ?_⟩
      rcases k4 p hp with ⟨y, y2⟩ | y
      · exact .inl ⟨y, fun z => y2 (s1 p z)⟩
      · rcases k2 p y with ⟨w, w2⟩ | w
        · exact .inl ⟨sk p w, w2⟩
        · exact .inr w
/-- slot i's tree is changed -/
theorem SR.upd (s : SR K F H σ δ g) {i : Nat} {v0 : V} {d' : PX.D} {fp' : List Addr} {H' : Hp} (hv : σ[i]? = some (some v0)) (r : R K F H' v0 d' fp') (hT : ∀ a vs, H a = some (.tup vs) → H' a = some (.tup vs)) (ho : ∀ j, j ≠ i → ∀ p ∈ g j, H' p = H p)
    (dj : ∀ p ∈ fp', ∀ j, j ≠ i → p ∉ g j) : SR K F H' σ (δ.set i d') (gset g i fp') := by
  refine ⟨by rw [List.length_set]; exact s.len, fun j e he hd => ?_, fun j k hjk p hp hq => ?_, fun j p hp => ?_⟩
  · by_cases hij : i = j
    · subst hij
      have hlt : i < δ.length := by
        have := (List.getElem?_eq_some_iff.mp he).1
        simpa using this
      rw [List.getElem?_set_self hlt] at he
      cases he
      rw [gset_same]
      exact ⟨_, hv, r⟩
    · rw [List.getElem?_set_ne hij] at he
      obtain ⟨v, e1, r1⟩ := s.rel j e he hd
      rw [gset_ne (fun z => hij z.symm)]
      exact ⟨v, e1, r1.mono (Same.refl F) hT fun p hp => ⟨ho j (fun z => hij z.symm) p hp, (r1.there p hp).1⟩⟩
  · by_cases h1 : j = i
    · subst h1
      rw [gset_same] at hp
      rw [gset_ne (fun z => hjk z.symm)] at hq
      exact dj p hp k (fun z => hjk z.symm) hq
    · rw [gset_ne h1] at hp
      by_cases h2 : k = i
      · subst h2
        rw [gset_same] at hq
        exact dj p hq j h1 hp
      · rw [gset_ne h2] at hq
        exact s.dis j k hjk p hp hq
  · by_cases h1 : j = i
    · subst h1
      rw [gset_same] at hp
      exact r.there p hp
    · rw [gset_ne h1] at hp
      obtain ⟨e, k, o, vs, e2, hk⟩ := s.own j p hp
      exact ⟨e, k, o, vs, (ho j h1 p hp).trans e2, hk⟩
theorem Tr.upd {F1 H1 : Hp} (gr : Grow F H F1 H1) {i : Nat} {a : Addr} {o : HO} {fp : List Addr} (ha : a ∈ g i) (hf : F a = none) (hn : H a ≠ none) (n : ∀ p ∈ fp, p ∈ g i ∨ H p = none) : Tr F H g F1 (upd H1 a o) (PX.gset g i fp) := by
  refine ⟨gr.ff, fun p o e => ?_, fun p h o e => ?_, fun p _ n => gr.only p n, fun j p hp => ?_⟩
  · rw [upd_ne (fun z => by
      subst z
      rw [gr.only p hn, hf] at e
      cases e)]
    exact gr.fh p o e
  · rw [upd_ne (fun z => by subst z; exact h i ha)]
    exact gr.hh p o e
  · by_cases e : j = i
    · subst e
      rw [gset_same] at hp
      rcases n p hp with z | z
      · exact .inl ⟨j, z⟩
      · exact .inr z
    · rw [gset_ne e] at hp
      exact .inl ⟨j, hp⟩
/-- an owned object of slot i's tree at the path js is rewritten: all that is wanted of the slots behind it -/
theorem SR.rewrite {F1 H1 : Hp} (s : Same F H) (sr : SR K F H σ δ g) (gr : Grow F H F1 H1) {i : Nat} {d0 b b' : PX.D} {v0 v1 : V} {js : List Nat} (e0 : δ[i]? = some d0) (hv : σ[i]? = some (some v0)) (ea : atP d0 js = some b) (av : AtV H1 v0 js v1)
    {kd : Kind} {xs : List PX.D} (eb : b = .box true kd xs) :
    ∃ a o vs fx, v1 = .ref a ∧ H1 a = some o ∧ HK K kd o vs ∧ Rs K F1 H1 vs xs fx ∧ a ∉ fx ∧ a ∈ g i ∧ (∀ p ∈ fx, p ∈ g i) ∧ F1 a = none ∧
      ∀ (kd' : Kind) (o' : HO) (vs' : List V) (xs' : List PX.D) (fx' : List Addr), b' = .box true kd' xs' → HK K kd' o' vs' → Rs K F1 H1 vs' xs' fx' → a ∉ fx' → (∀ p ∈ fx', p ∈ fx ∨ H p = none) →
        ∃ g', Tr F H g F1 (L2.upd H1 a o') g' ∧ SR K F1 (L2.upd H1 a o') σ (δ.set i (setP d0 js b')) g' ∧ (∀ j, j ≠ i → g' j = g j) ∧ ∀ p ∈ g' i, (p ∈ g i ∧ p ∉ a :: fx) ∨ p ∈ a :: fx' := by
  subst eb
  have sr1 := sr.grow gr
  have nd : d0 ≠ .dead := fun z => by
    rw [z] at ea
    cases js with
    | nil => cases ea
    | cons j js => cases ea
  obtain ⟨v0', hv', r0⟩ := sr1.rel i d0 e0 nd
  rw [hv] at hv'
  cases hv'
  obtain ⟨w, f1, aw, rw_, sub, rb⟩ := R.focus r0 ea
  have ew := AtV.uniq av aw
  subst ew
  generalize eB : PX.D.box true kd xs = B at rw_
  cases rw_ with
  | own h hk nf hs na =>
    cases eB
    rename_i a o vs fx
    refine ⟨a, o, vs, fx, rfl, h, hk, hs, na, sub a List.mem_cons_self, fun p hp => sub p (List.mem_cons_of_mem _ hp), nf, fun kd' o' vs' xs' fx' eb' hk' hs' na' n' => ?_⟩
    subst eb'
    have hT : ∀ b vs, H1 b = some (.tup vs) → L2.upd H1 a o' b = some (.tup vs) := fun b vs q => updB_t h (fun ys => hk.not_tup) q
    have fresh : ∀ p, H p = none → p ∉ g i := fun p hp z => by
      obtain ⟨_, k, o, vs, e, _⟩ := sr.own i p z
      rw [hp] at e
      cases e
    have r2 : R K F1 (L2.upd H1 a o') (.ref a) (.box true kd' xs') (a :: fx') := .own upd_same hk' nf (hs'.mono (Same.refl F1) hT fun p hp => ⟨upd_ne fun z => na' (z ▸ hp), (hs'.there p hp).1⟩) na'
    obtain ⟨f', k1, k2⟩ := rb F1 (L2.upd H1 a o') _ _ (Same.refl F1) hT (fun p hp n => ⟨upd_ne fun z => n (by subst z; exact List.mem_cons_self), (r0.there p hp).1⟩) r2 fun p hp => by
      rcases List.mem_cons.mp hp with rfl | z
      · exact .inl List.mem_cons_self
      · rcases n' p z with y | y
        · exact .inl (List.mem_cons_of_mem _ y)
        · exact .inr (fresh p y)
    have ha : a ∈ g i := sub a List.mem_cons_self
    have hn : H a ≠ none := by
      obtain ⟨_, k, o, vs, e, _⟩ := sr.own i a ha
      rw [e]; simp
    have all : ∀ p ∈ f', p ∈ g i ∨ H p = none := fun p hp => by
      rcases k2 p hp with ⟨y, _⟩ | y
      · exact .inl y
      · rcases List.mem_cons.mp y with rfl | y
        · exact .inl ha
        · rcases n' p y with w | w
          · exact .inl (sub p (List.mem_cons_of_mem _ w))
          · exact .inr w
    refine ⟨PX.gset g i f', Tr.upd gr ha (sr.own i a ha).1 hn all, sr1.upd hv k1 hT (fun j hj p hp => upd_ne fun z => ?_) fun p hp j hj => ?_, fun j hj => gset_ne hj, fun p hp => ?_⟩
    · subst z
      exact sr.dis i j (fun e => hj e.symm) p ha hp
    · rcases all p hp with z | z
      · exact sr.dis i j (fun e => hj e.symm) p z
      · intro q
        obtain ⟨_, k, o, vs, e, _⟩ := sr.own j p q
        rw [z] at e
        cases e
    · rw [gset_same] at hp
      rcases k2 p hp with z | z
      · exact .inl z
      · exact .inr z
  | frz _ _ => cases eB
  | _ => cases eB
/-- the like, where the new items' boxes were nobody's -/
theorem SR.rewrite2 {F1 H1 : Hp} (sr : SR K F H σ δ g) (gr : Grow F H F1 H1) {i : Nat} {d0 b b' : PX.D} {v0 v1 : V} {js : List Nat} (e0 : δ[i]? = some d0) (hv : σ[i]? = some (some v0)) (ea : atP d0 js = some b) (av : AtV H1 v0 js v1)
    {kd : Kind} {xs : List PX.D} (eb : b = .box true kd xs) :
    ∃ a o vs fx, v1 = .ref a ∧ H1 a = some o ∧ HK K kd o vs ∧ Rs K F1 H1 vs xs fx ∧ a ∉ fx ∧ a ∈ g i ∧ (∀ p ∈ fx, p ∈ g i) ∧ F1 a = none ∧
      ∀ (kd' : Kind) (o' : HO) (vs' : List V) (xs' : List PX.D) (fx' : List Addr), b' = .box true kd' xs' → HK K kd' o' vs' → Rs K F1 H1 vs' xs' fx' → a ∉ fx' → (∀ p ∈ fx', p ∈ fx ∨ ∀ k, p ∉ g k) →
        ∃ g', SR K F1 (L2.upd H1 a o') σ (δ.set i (setP d0 js b')) g' ∧ (∀ j, j ≠ i → g' j = g j) ∧ ∀ p ∈ g' i, p ∈ g i ∨ p ∈ a :: fx' := by
  subst eb
  have sr1 := sr.grow gr
  have nd : d0 ≠ .dead := fun z => by
    rw [z] at ea
    cases js with
    | nil => cases ea
    | cons j js => cases ea
  obtain ⟨v0', hv', r0⟩ := sr1.rel i d0 e0 nd
  rw [hv] at hv'
  cases hv'
  obtain ⟨w, f1, aw, rw_, sub, rb⟩ := R.focus r0 ea
  have ew := AtV.uniq av aw
  subst ew
  generalize eB : PX.D.box true kd xs = B at rw_
  cases rw_ with
  | own h hk nf hs na =>
    cases eB
    rename_i a o vs fx
    refine ⟨a, o, vs, fx, rfl, h, hk, hs, na, sub a List.mem_cons_self, fun p hp => sub p (List.mem_cons_of_mem _ hp), nf, fun kd' o' vs' xs' fx' eb' hk' hs' na' n' => ?_⟩
    subst eb'
    have hT : ∀ b vs, H1 b = some (.tup vs) → L2.upd H1 a o' b = some (.tup vs) := fun b vs q => updB_t h (fun ys => hk.not_tup) q
    have r2 : R K F1 (L2.upd H1 a o') (.ref a) (.box true kd' xs') (a :: fx') := .own upd_same hk' nf (hs'.mono (Same.refl F1) hT fun p hp => ⟨upd_ne fun z => na' (z ▸ hp), (hs'.there p hp).1⟩) na'
    obtain ⟨f', k1, k2⟩ := rb F1 (L2.upd H1 a o') _ _ (Same.refl F1) hT (fun p hp n => ⟨upd_ne fun z => n (by subst z; exact List.mem_cons_self), (r0.there p hp).1⟩) r2 fun p hp => by
      rcases List.mem_cons.mp hp with rfl | z
      · exact .inl List.mem_cons_self
      · rcases n' p z with y | y
        · exact .inl (List.mem_cons_of_mem _ y)
        · exact .inr (y i)
    have ha : a ∈ g i := sub a List.mem_cons_self
    have all : ∀ p ∈ f', p ∈ g i ∨ ∀ k, p ∉ g k := fun p hp => by
      rcases k2 p hp with ⟨y, _⟩ | y
      · exact .inl y
      · rcases List.mem_cons.mp y with rfl | y
        · exact .inl ha
        · rcases n' p y with w | w
          · exact .inl (sub p (List.mem_cons_of_mem _ w))
          · exact .inr w
    refine ⟨PX.gset g i f', sr1.upd hv k1 hT (fun j hj p hp => upd_ne fun z => ?_) fun p hp j hj => ?_, fun j hj => gset_ne hj, fun p hp => ?_⟩
    · subst z
      exact sr.dis i j (fun e => hj e.symm) p ha hp
    · rcases all p hp with z | z
      · exact sr.dis i j (fun e => hj e.symm) p z
      · exact z j
    · rw [gset_same] at hp
      rcases k2 p hp with ⟨z, _⟩ | z
      · exact .inl z
      · exact .inr z
  | frz _ _ => cases eB
  | _ => cases eB
end
end PX

/-! PX, part x: what changes boxes. -/
namespace PX
open PySem PySem.Spec PyProof.Rows L2

def RestX (K : Kx) (W : WX) (σ : L2.St) (F H : Hp) (g : Nat → List Addr) (r : RX) (Q : VK) : Prop :=
  match r with
  | .ok d δ' => ∀ v F' H' g' fp, Tr F H g F' H' g' → SR K F' H' σ δ' g' → R K F' H' v d fp → (∀ p ∈ fp, (∀ i, p ∉ g' i) ∧ ((∃ j, p ∈ g j) ∨ H p = none)) → Q v H'
  | .exc c fs δ' => ∀ C d F' H' g', K.ca c = some C → Tr F H g F' H' g' → SR K F' H' σ δ' g' → ExD fs d → W (.ref C) d σ H'
  | .stuck => False
def tX (K : Kx) (W : WX) (m : List D → RX) : TE := fun σ H Q => ∃ F δ g, Same F H ∧ SR K F H σ δ g ∧ RestX K W σ F H g (m δ) Q
section
variable {X : Cx} {W : WX} {K : Kx} {σ : L2.St} {F H : Hp} {Q : VK} {δ : List D} {g : Nat → List Addr}
theorem SR.fresh' (s : SR K F H σ δ g) {p : Addr} (n : H p = none) : ∀ i, p ∉ g i := fun i hi => by
  obtain ⟨_, k, o, vs, e, _⟩ := s.own i p hi
  rw [n] at e
  cases e
theorem Tr.same {F' H' : Hp} (a : Grow F H F' H') : Tr F H g F' H' g := .ofGrow a fun i p hp => .inl ⟨i, hp⟩

/-! ### one step of a path -/
theorem valV_idx {κ : Type} [DecidableEq κ] {k : κ} : ∀ {kvs : List (κ × V)} {j : Nat}, ((kvs.map (·.1)).findIdx? fun y => decide (y = k)) = some j → ∃ v, (kvs.map (·.2))[j]? = some v ∧ valV kvs k = some v
  | [], j, e => by simp at e
  | kv :: kvs, j, e => by
    rw [List.map_cons, List.findIdx?_cons] at e
    by_cases h : kv.1 = k
    · rw [decide_eq_true h] at e
      cases e
      exact ⟨kv.2, rfl, valV_pos h⟩
    · rw [decide_eq_false h, if_neg (by decide)] at e
      obtain ⟨i, ei, rfl⟩ := Option.map_eq_some_iff.mp e
      obtain ⟨v, h1, h2⟩ := valV_idx ei
      exact ⟨v, by simpa using h1, by rw [valV_neg h]; exact h2⟩
theorem step_ix (hK : K.exc = none) {v w : V} {d y : D} {f f2 : List Addr} {j : Nat} {d' : D} (r : R K F H v d f) (r2 : R K F H w y f2) (e : stpD d y = some j) (ek : kidD d j = some d') : ∃ v1, AtV H v [j] v1 ∧ ∀ Q : VK, Q v1 H → rIx2 K.fr v w H Q := by
  unfold stpD at e
  split at e
  · cases r with
    | own h hk n hs na =>
      cases hk
      have ek : _[j]? = some d' := ek
      obtain ⟨v1, g1, e1, r1, _⟩ := hs.get ek
      refine ⟨v1, .cons h e1 .nil, fun Q q => .inl (.inl ⟨_, _, _, v1, rfl, r2.int_inv, SqL.of h, ?_, q⟩)⟩
      unfold L2.atI
      rw [hs.length, e]
      exact e1
  · obtain ⟨a, vs, rfl, h, hs⟩ := r.tup_at
    have ek : _[j]? = some d' := ek
    obtain ⟨v1, g1, e1, r1, _⟩ := hs.get ek
    refine ⟨v1, .cons h e1 .nil, fun Q q => .inl (.inr (.inl ⟨_, _, _, v1, rfl, r2.int_inv, SqT.of h, ?_, q⟩))⟩
    unfold L2.atI
    rw [hs.length, e]
    exact e1
  · cases r with
    | own h hk n hs na =>
      cases hk
      obtain ⟨v1, h1, h2⟩ := valV_idx e
      refine ⟨v1, .cons h h1 .nil, fun Q q => .inr ⟨_, v1, rfl, ?_, q⟩⟩
      rw [r2.int_inv, ← h2]
      exact DGet.k (k := .inl _) h
  · cases r with
    | own h hk n hs na =>
      cases hk
      obtain ⟨v1, h1, h2⟩ := valV_idx e
      refine ⟨v1, .cons h h1 .nil, fun Q q => .inr ⟨_, v1, rfl, ?_, q⟩⟩
      rw [r2.str_inv, ← h2]
      exact DGet.k (k := .inr _) h
  · cases r2 with
    | exv h => rw [hK] at h; cases h
  · cases e
/-! ### the reading of a path -/
def RestP (K : Kx) (W : WX) (σ : L2.St) (F H : Hp) (d0 : D) (v0 : V) (r : Res (List Nat)) (Q : VK) : Prop :=
  match r with
  | .ok js => ∀ v F' H', Grow F H F' H' → AtV H' v0 js v → Q v H'
  | .exc c fs => ∀ C d F' H', K.ca c = some C → Grow F H F' H' → ExD fs d → W (.ref C) d σ H'
  | .stuck => False
def tPt (K : Kx) (W : WX) (i : Nat) (m : List D → D → Res (List Nat)) : TE := fun σ H Q => ∃ F δ g d0 v0, Same F H ∧ SR K F H σ δ g ∧ δ[i]? = some d0 ∧ d0 ≠ .dead ∧ σ[i]? = some (some v0) ∧ RestP K W σ F H d0 v0 (m δ d0) Q
end
section
variable {N : List Str} {K : Kx} {k : Nat} {fn : Str → Option (List D → Res D)} {gl : Str → Option D}
def pthK (d0 : D) (r : D → Res (List Nat)) (y : D) : Res (List Nat) := match stpD d0 y with
  | none => .stuck
  | some j => match kidD d0 j with
    | none => .stuck
    | some d' => (r d').bind fun js => .ok (j :: js)
theorem nm_pe {X : Cx} {W : WX} {sc : Scope} (c : Cok X W N sc K k fn gl) {i : Nat} {x : Str} {p : Pos} (h : (decide (N[i]? = some x) && (visB sc x && nodbg x)) = true) : PE X (.Name x p) (tVar i) := by
  obtain ⟨h0, h1⟩ := and_t h
  obtain ⟨h1, h2⟩ := and_t h1
  have h0 : N[i]? = some x := by simpa using h0
  exact pe_var (c.ix h0) (c.vis h1) (dbg_of h2).1 (dbg_of h2).2
theorem pthD_snoc {e : E} {δ : List D} : ∀ {p : List E} {d : D}, pthD fn gl (p ++ [e]) δ d = (pthD fn gl p δ d).bind fun js => match atP d js with
    | none => .stuck
    | some d' => (ev fn gl e δ).bind (fun y => (pthK d' (fun _ => .ok []) y).bind fun ks => .ok (js ++ ks))
  | [], d => by
    show (ev fn gl e δ).bind (pthK d fun _ => .ok []) = (ev fn gl e δ).bind (fun y => (pthK d (fun _ => .ok []) y).bind fun ks => .ok ([] ++ ks))
    cases ev fn gl e δ with
    | ok y =>
      show pthK d (fun _ => .ok []) y = (pthK d (fun _ => .ok []) y).bind fun ks => .ok ([] ++ ks)
      cases pthK d (fun _ => .ok []) y <;> rfl
    | exc c fs => rfl
    | stuck => rfl
  | e0 :: p, d => by
    show (ev fn gl e0 δ).bind (pthK d (pthD fn gl (p ++ [e]) δ)) = ((ev fn gl e0 δ).bind (pthK d (pthD fn gl p δ))).bind _
    cases ev fn gl e0 δ with
    | ok y =>
      show pthK d (pthD fn gl (p ++ [e]) δ) y = (pthK d (pthD fn gl p δ) y).bind _
      unfold pthK
      cases ej : stpD d y with
      | none => rfl
      | some j =>
        dsimp only
        cases ek : kidD d j with
        | none => rfl
        | some d' =>
          dsimp only
          rw [pthD_snoc (p := p) (d := d')]
          cases pthD fn gl p δ d' with
          | exc c fs => rfl
          | stuck => rfl
          | ok js =>
            show (match atP d' js with | none => Res.stuck | some d'' => (ev fn gl e δ).bind (fun y => (pthK d'' (fun _ => .ok []) y).bind fun ks => .ok (js ++ ks))).bind (fun js => .ok (j :: js)) = match (kidD d j).bind (fun d' => atP d' js) with
              | none => Res.stuck
              | some d'' => (ev fn gl e δ).bind (fun y => (pthK d'' (fun _ => .ok []) y).bind fun ks => .ok (j :: js ++ ks))
            rw [ek]
            show _ = match atP d' js with
              | none => Res.stuck
              | some d'' => (ev fn gl e δ).bind (fun y => (pthK d'' (fun _ => .ok []) y).bind fun ks => .ok (j :: js ++ ks))
            cases atP d' js with
            | none => rfl
            | some d'' =>
              dsimp only
              cases ev fn gl e δ with
              | ok z =>
                show ((pthK d'' (fun _ => .ok []) z).bind fun ks => .ok (js ++ ks)).bind _ = (pthK d'' (fun _ => .ok []) z).bind fun ks => .ok (j :: js ++ ks)
                cases pthK d'' (fun _ => .ok []) z <;> rfl
              | exc c fs => rfl
              | stuck => rfl
    | exc c fs => rfl
    | stuck => rfl
theorem idx_fld {f : Str} : ∀ {fs : List (Str × V)} {j : Nat}, ((fs.map (·.1)).findIdx? fun n => decide (n = f)) = some j → ∃ v, (fs.map (·.2))[j]? = some v ∧ fs.lookup f = some v ∧ f ∈ fs.map (·.1)
  | [], j, e => by simp at e
  | (n, v) :: fs, j, e => by
    rw [List.map_cons, List.findIdx?_cons] at e
    by_cases h : n = f
    · rw [decide_eq_true h] at e
      cases e
      subst h
      exact ⟨v, rfl, by simp [List.lookup], by simp⟩
    · rw [decide_eq_false h, if_neg (by decide)] at e
      obtain ⟨i, ei, rfl⟩ := Option.map_eq_some_iff.mp e
      obtain ⟨w, h1, h2, h3⟩ := idx_fld ei
      refine ⟨w, by simpa using h1, ?_, List.mem_cons_of_mem _ h3⟩
      have : (f == n) = false := beq_eq_false_iff_ne.mpr fun z => h z.symm
      rw [List.lookup_cons, this]
      exact h2
theorem step_fld {F H : Hp} {v : V} {d : D} {f2 : List Addr} {f : Str} {j : Nat} {d' : D} (r : R K F H v d f2) (e : stpD d (.exv f []) = some j) (ek : kidD d j = some d') :
    ∃ v1 a C dx fs, AtV H v [j] v1 ∧ v = .ref a ∧ H a = some (.ins C dx fs) ∧ Cls K.fr C ∧ NoAttr K.fr C f ∧ fs.lookup f = some v1 := by
  unfold stpD at e
  split at e
  · rename_i z; exact D.noConfusion z
  · rename_i z; exact D.noConfusion z
  · rename_i z; exact D.noConfusion z
  · rename_i z; exact D.noConfusion z
  · rename_i c ns ds f' ee
    cases ee
    cases r with
    | own h hk n hs na =>
      cases hk with
      | ob fs h1 h2 h3 =>
        obtain ⟨v1, e1, e2, e3⟩ := idx_fld e
        exact ⟨v1, _, _, _, fs, .cons h e1 .nil, rfl, h, h2, h3 f e3, e2⟩
  · cases e
/-- the reading of a path, from its end -/
theorem pe_pr (hK : K.exc = none) {X : Cx} {W : WX} {sc : Scope} (c : Cok X W N sc K k fn gl) {i : Nat} : ∀ (p : List E) (x : Expr), chPr N sc i p x = true → PE X x (tPt K W i (pthD fn gl p.reverse))
  | [], x, h => by
    cases x with
    | Name y px =>
      refine PE.imp (nm_pe c h) fun σ H Q q => ?_
      obtain ⟨F, δ, g, d0, v0, s, sr, e0, nd, ev, q⟩ := q
      exact ⟨v0, ev, q v0 F H (Grow.refl s) .nil⟩
    | _ => cases h
  | e :: p, x, h => by
    have key : (∃ f o g px, e = .fl f ∧ x = .Attribute o g px ∧ (decide (f = g) && (notCall o && chPr N sc i p o)) = true) ∨ (∃ o y px, x = .Subscript o y px ∧ (notSlice y && (chE N sc e y && chPr N sc i p o)) = true) := by
      unfold chPr at h
      split at h
      · rename_i z; cases z
      · rename_i z; cases z; exact .inl ⟨_, _, _, _, rfl, rfl, h⟩
      · rename_i z; cases z; exact .inr ⟨_, _, _, rfl, h⟩
      · cases h
    rw [List.reverse_cons]
    rcases key with ⟨f, o, g, px, rfl, rfl, hh⟩ | ⟨o, y, px, rfl, hh⟩
    · obtain ⟨h1, h2⟩ := and_t hh
      obtain ⟨h2, h3⟩ := and_t h2
      have e := of_decide_eq_true h1
      subst e
      refine PE.imp (pe_fld (pe_pr hK c p o h3) (base_of h2)) fun σ H Q q => ?_
      rw [c.kfr]
      obtain ⟨F, δ, g, d0, v0, s, sr, e0, nd, ev0, q⟩ := q
      refine ⟨F, δ, g, d0, v0, s, sr, e0, nd, ev0, ?_⟩
      rw [pthD_snoc] at q
      cases ejs : pthD fn gl p.reverse δ d0 with
      | stuck => rw [ejs] at q; exact q.elim
      | exc cc fs => rw [ejs] at q; exact q
      | ok js =>
        rw [ejs] at q
        intro w F1 H1 gr av
        obtain ⟨v0', hv0, r0⟩ := sr.rel i d0 e0 nd
        rw [ev0] at hv0
        cases hv0
        have q : RestP K W σ F H d0 v0 (match atP d0 js with
          | none => .stuck
          | some d' => ((pthK d' (fun _ => .ok []) (.exv f [])).bind fun ks => .ok (js ++ ks))) Q := q
        cases ea : atP d0 js with
        | none => rw [ea] at q; exact q.elim
        | some d' =>
          rw [ea] at q
          have q : RestP K W σ F H d0 v0 ((pthK d' (fun _ => .ok []) (.exv f [])).bind fun ks => .ok (js ++ ks)) Q := q
          unfold pthK at q
          cases ej : stpD d' (.exv f []) with
          | none => rw [ej] at q; exact q.elim
          | some j =>
            rw [ej] at q
            dsimp only at q
            cases ek : kidD d' j with
            | none => rw [ek] at q; exact q.elim
            | some d'' =>
              rw [ek] at q
              obtain ⟨v1, f1, a1, r1, _⟩ := R.focus (gr.r r0) ea
              have ee := AtV.uniq av a1
              subst ee
              obtain ⟨v2, a, C, dx, fs, a2, rfl, ha, hcl, hna, hl⟩ := step_fld r1 ej ek
              exact ⟨a, C, dx, fs, v2, rfl, ha, hcl, hna, hl, q v2 F1 H1 gr (av.snoc a2)⟩
    · obtain ⟨h1, h2⟩ := and_t hh
      obtain ⟨h2, h3⟩ := and_t h2
      have hr := ix_all (X := X) (by have := c.hu; omega)
      rw [c.kfr] at hr
      refine PE.imp (pe_ix hr (pe_pr hK c p o h3) ((snd hK e).pe c y h2).1 (slice_of h1)) fun σ H Q q => ?_
      obtain ⟨F, δ, g, d0, v0, s, sr, e0, nd, ev0, q⟩ := q
      refine ⟨F, δ, g, d0, v0, s, sr, e0, nd, ev0, ?_⟩
      rw [pthD_snoc] at q
      cases ejs : pthD fn gl p.reverse δ d0 with
      | stuck => rw [ejs] at q; exact q.elim
      | exc cc fs => rw [ejs] at q; exact q
      | ok js =>
        rw [ejs] at q
        intro w F1 H1 gr av
        obtain ⟨v0', hv0, r0⟩ := sr.rel i d0 e0 nd
        rw [ev0] at hv0
        cases hv0
        have q : RestP K W σ F H d0 v0 (match atP d0 js with
          | none => .stuck
          | some d' => (ev fn gl e δ).bind (fun y => (pthK d' (fun _ => .ok []) y).bind fun ks => .ok (js ++ ks))) Q := q
        cases ea : atP d0 js with
        | none => rw [ea] at q; exact q.elim
        | some d' =>
          rw [ea] at q
          have q : RestP K W σ F H d0 v0 ((ev fn gl e δ).bind (fun y => (pthK d' (fun _ => .ok []) y).bind fun ks => .ok (js ++ ks))) Q := q
          refine ⟨F1, δ, g, gr.fh, sr.grow gr, ?_⟩
          cases eq : ev fn gl e δ with
          | stuck => rw [eq] at q; exact q.elim
          | exc cc fs =>
            rw [eq] at q
            exact fun C d F' H' e1 b e2 => q C d F' H' e1 (gr.trans b) e2
          | ok dy =>
            rw [eq] at q
            intro w2 F2 H2 fp2 gr2 rw2 _
            have q : RestP K W σ F H d0 v0 ((pthK d' (fun _ => .ok []) dy).bind fun ks => .ok (js ++ ks)) Q := q
            unfold pthK at q
            cases ej : stpD d' dy with
            | none => rw [ej] at q; exact q.elim
            | some j =>
              rw [ej] at q
              dsimp only at q
              cases ek : kidD d' j with
              | none => rw [ek] at q; exact q.elim
              | some d'' =>
                rw [ek] at q
                have g2 := gr.trans gr2
                obtain ⟨v1, f1, a1, r1, _⟩ := R.focus (g2.r r0) ea
                have av2 := av.mono gr2.hh
                have ee := AtV.uniq av2 a1
                subst ee
                obtain ⟨v2, a2, k2⟩ := step_ix hK r1 rw2 ej ek
                exact k2 Q (q v2 F2 H2 g2 (av2.snoc a2))
theorem pe_pt (hK : K.exc = none) {X : Cx} {W : WX} {sc : Scope} (c : Cok X W N sc K k fn gl) {i : Nat} {p : List E} {x : Expr} (h : chPt N sc i p x = true) : PE X x (tPt K W i (pthD fn gl p)) := by
  have := pe_pr (W := W) hK c p.reverse x h
  rw [List.reverse_reverse] at this
  exact this
theorem chPr_nc {sc : Scope} {i : Nat} {p : List E} {x : Expr} (h : chPr N sc i p x = true) : notCall x = true := by
  unfold chPr at h
  split at h
  · rfl
  · rfl
  · rfl
  · cases h
end
section
variable {X : Cx} {W : WX} {K : Kx} {σ : L2.St} {F H : Hp} {Q : VK} {δ : List D} {g : Nat → List Addr}
/-! ### items put in, taken out -/
theorem Rs.takeOut : ∀ {vs : List V} {ds : List D} {fp : List Addr}, Rs K F H vs ds fp → ∀ {j : Nat} {d : D}, ds[j]? = some d → ∃ v f1 f2, vs[j]? = some v ∧ R K F H v d f2 ∧ Rs K F H (vs.eraseIdx j) (ds.eraseIdx j) f1 ∧ (∀ p ∈ f2, p ∉ f1) ∧ (∀ p ∈ f1, p ∈ fp) ∧ ∀ p ∈ f2, p ∈ fp
  | _, _, _, .nil, j, d, e => by simp at e
  | _, _, _, .cons (f := f) (g := g) r rs n, 0, d, e => by
    simp at e
    subst e
    exact ⟨_, g, f, rfl, r, rs, n, fun p hp => List.mem_append_right _ hp, fun p hp => List.mem_append_left _ hp⟩
  | _, _, _, .cons (f := f) (g := g) r rs n, j + 1, d, e => by
    obtain ⟨v, f1, f2, e1, r1, rs1, n1, s1, s2⟩ := Rs.takeOut rs (j := j) (d := d) (by simpa using e)
    refine ⟨v, f ++ f1, f2, by simpa using e1, r1, .cons r rs1 fun p hp hq => n p hp (s1 p hq), fun p hp hq => ?_, fun p hp => ?_, fun p hp => List.mem_append_right _ (s2 p hp)⟩
    · rcases List.mem_append.mp hq with z | z
      · exact n p z (s2 p hp)
      · exact n1 p hp z
    · rcases List.mem_append.mp hp with z | z
      · exact List.mem_append_left _ z
      · exact List.mem_append_right _ (s1 p z)
theorem Rs.putIn {v : V} {d : D} {f2 : List Addr} (r : R K F H v d f2) : ∀ {vs : List V} {ds : List D} {fp : List Addr} (n : Nat), Rs K F H vs ds fp → (∀ p ∈ f2, p ∉ fp) → ∃ f', Rs K F H (vs.take n ++ v :: vs.drop n) (ds.take n ++ d :: ds.drop n) f' ∧ ∀ p ∈ f', p ∈ fp ∨ p ∈ f2
  | _, _, _, 0, rs, dj => ⟨_, .cons r rs dj, fun p hp => by
    rcases List.mem_append.mp hp with z | z
    · exact .inr z
    · exact .inl z⟩
  | _, _, _, n + 1, .nil, dj => ⟨_, .cons r .nil (fun p _ z => nomatch z), fun p hp => by
    rcases List.mem_append.mp hp with z | z
    · exact .inr z
    · exact .inl z⟩
  | _, _, _, n + 1, .cons (f := f) (g := g) r0 rs n0, dj => by
    obtain ⟨f', k1, k2⟩ := Rs.putIn r n rs fun p hp z => dj p hp (List.mem_append_right _ z)
    refine ⟨f ++ f', .cons r0 k1 fun p hp hq => ?_, fun p hp => ?_⟩
    · rcases k2 p hq with z | z
      · exact n0 p hp z
      · exact dj p z (List.mem_append_left _ hp)
    · rcases List.mem_append.mp hp with z | z
      · exact .inl (List.mem_append_left _ z)
      · rcases k2 p z with w | w
        · exact .inl (List.mem_append_right _ w)
        · exact .inr w
/-! ### methods of lists -/
def rMop : Mop → V → List V → Hp → VK → Prop
  | .app => rAppend
  | .pop => rPop
  | .popAt => rPopAt
  | .ins => fun x vs H Q => ∃ (l : Addr) (xs : List V) (i : Int) (y : V), x = .ref l ∧ vs = [.int i, y] ∧ H l = some (.lst xs) ∧ xs.length < sizeLine ∧ 0 ≤ i ∧ i < 2 ^ 63 ∧ Q .non (upd H l (.lst (xs.take i.toNat ++ [y] ++ xs.drop i.toNat)))
  | .clear => rClear
/-- a list's method upon a list of D: the new list, what is given -/
theorem mop_ok {F1 H1 : Hp} {m : Mop} {a : Addr} {vs : List V} {xs ds : List D} {fx fa : List Addr} {ws : List V} {r : D × D} (ha : H1 a = some (.lst vs)) (rs : Rs K F1 H1 vs xs fx) (ra : Rs K F1 H1 ws ds fa) (dj : ∀ p ∈ fa, p ∉ fx) (e : mopD m (.box true .lst xs) ds = some r)
    (k : ∀ (v : V) (vs' : List V) (xs' : List D) (fv fx' : List Addr), r.2 = .box true .lst xs' → Rs K F1 H1 vs' xs' fx' → R K F1 H1 v r.1 fv → (∀ p ∈ fv, p ∈ fx ∧ p ∉ fx') → (∀ p ∈ fx', p ∈ fx ∨ p ∈ fa) → Q v (upd H1 a (.lst vs'))) : rMop m (.ref a) ws H1 Q := by
  unfold mopD at e
  split at e
  · rename_i xs0 d0 e1
    injection e1 with _ _ e1
    subst e1
    split at e
    · rename_i hl
      cases e
      cases ra with
      | cons r1 rr _ =>
        cases rr
        refine ⟨a, vs, _, rfl, rfl, ha, by rw [rs.length]; exact hl, k .non _ _ [] _ rfl (Rs.app rs (Rs.one r1) fun p hp hq => dj p (List.mem_append_left _ hq) hp) .non (fun p hp => nomatch hp) fun p hp => ?_⟩
        rcases List.mem_append.mp hp with z | z
        · exact .inl z
        · exact .inr (List.mem_append_left _ z)
    · cases e
  · rename_i xs0 e1
    injection e1 with _ _ e1
    subst e1
    obtain ⟨d, ed, rfl⟩ := Option.map_eq_some_iff.mp e
    cases ra
    have hne : xs ≠ [] := fun z => by rw [z] at ed; cases ed
    have hl : 0 < xs.length := List.length_pos_iff.mpr hne
    have ed2 : xs[xs.length - 1]? = some d := by rw [← List.getLast?_eq_getElem?]; exact ed
    obtain ⟨v, f1, f2, e1, r1, rs1, n1, s1, s2⟩ := Rs.takeOut rs ed2
    have dl : ∀ {α : Type} (ys : List α), ys.dropLast = ys.eraseIdx (ys.length - 1) := fun ys => List.eraseIdx_length_sub_one.symm
    refine ⟨a, vs, v, rfl, rfl, ha, by rw [rs.length]; exact e1, ?_⟩
    rw [dl vs, rs.length]
    refine k v _ _ f2 f1 ?_ rs1 r1 (fun p hp => ⟨s2 p hp, n1 p hp⟩) fun p hp => .inl (s1 p hp)
    rw [dl xs]
  · rename_i xs0 i e1
    injection e1 with _ _ e1
    subst e1
    split at e
    · rename_i hi
      obtain ⟨j, ej, e⟩ := Option.bind_eq_some_iff.mp e
      obtain ⟨d, ed, rfl⟩ := Option.map_eq_some_iff.mp e
      cases ra with
      | cons r1 rr _ =>
        cases rr
        obtain ⟨v, f1, f2, e1, r2, rs1, n1, s1, s2⟩ := Rs.takeOut rs ed
        obtain ⟨q1, _⟩ := ixN_seq ej
        refine ⟨a, vs, i, j, v, rfl, by rw [r1.int_inv], ha, by omega, by omega, by rw [rs.length]; exact q1, e1, ?_⟩
        exact k v _ _ f2 f1 rfl rs1 r2 (fun p hp => ⟨s2 p hp, n1 p hp⟩) fun p hp => .inl (s1 p hp)
    · cases e
  · rename_i xs0 i d0 e1
    injection e1 with _ _ e1
    subst e1
    split at e
    · rename_i hi
      cases e
      cases ra with
      | cons r1 rr n1 =>
        cases rr with
        | cons r2 rr n2 =>
          cases rr
          rename_i fi fd
          obtain ⟨f', k1, k2⟩ := Rs.putIn r2 i.toNat rs fun p hp => dj p (List.mem_append_right _ (List.mem_append_left _ hp))
          have hs : sizeLine = 16777216 := sizeLine_eq
          refine ⟨a, vs, i, _, rfl, by rw [r1.int_inv], ha, by rw [rs.length]; exact hi.2.2, hi.1, by omega, ?_⟩
          rw [List.append_assoc]
          refine k .non _ _ [] f' rfl k1 .non (fun p hp => nomatch hp) fun p hp => ?_
          rcases k2 p hp with z | z
          · exact .inl z
          · exact .inr (List.mem_append_right _ (List.mem_append_left _ z))
    · cases e
  · rename_i xs0 e1
    cases e
    cases ra
    exact ⟨a, vs, rfl, rfl, ha, k .non [] [] [] [] rfl .nil .non (fun p hp => nomatch hp) fun p hp => nomatch hp⟩
  · cases e
theorem kargs {sc : Scope} {N : List Str} {env : Env} {pos : Pos} : ∀ {es : E} {xs : List Expr}, chKs N sc es xs = true → (backTo pos (starEach xs env)).any (·.1) = false ∧ (backTo pos (starEach xs env)).all (fun x => !x.1) = true
  | es, [], _ => ⟨rfl, rfl⟩
  | es, x :: xs, h => by
    cases es with
    | kcons a r =>
      obtain ⟨h1, h2⟩ := and_t h
      obtain ⟨h2, h3⟩ := and_t h2
      obtain ⟨k1, k2⟩ := kargs (env := env) (pos := pos) h3
      rw [star_of h1]
      refine ⟨?_, ?_⟩
      · show (false || (backTo pos (starEach xs env)).any (·.1)) = false
        rw [k1]
        rfl
      · show (true && (backTo pos (starEach xs env)).all (fun x => !x.1)) = true
        rw [k2]
        rfl
    | _ => cases h
/-- the call of a list's method -/
theorem pe_mop {N : List Str} {sc : Scope} {m : Mop} {o : Expr} {xs : List Expr} {args : E} {ap p : Pos} {to : TE} {fn : Str → Option (List D → Res D)} {gl : Str → Option D} (mo : ∀ σ H Q Q', (∀ v H, Q v H → Q' v H) → to σ H Q → to σ H Q') (ho : PE X o to) (ha : PA X xs (tK K W (ev fn gl args))) (hl : xs.length = mopN m) (hb : notCall o = true) (he : (ap.endLine == p.line) = true) (hk : chKs N sc args xs = true) :
    PE X (.Call (.Attribute o (mopName m) ap) xs [] p) (tBM X.K "list" (rMop m) to (tK K W (ev fn gl args))) := by
  have few : ∀ {x : Expr} {ys : List Expr}, xs = x :: ys → ((backTo p (starEach (x :: ys) X.env)).all (fun x => !x.1) && (backToKw p (keywordEach [] X.env)).all (fun x => x.1.isSome)
      && decide ((x :: ys).length + ([] : List Keyword).length + (if ([] : List Keyword).isEmpty then 0 else 1) < 30)) = true := fun {x ys} e => by
    subst e
    rw [(kargs (env := X.env) (pos := p) hk).2]
    have : (x :: ys).length ≤ 2 := by rw [hl]; cases m <;> decide
    have h30 : decide ((x :: ys).length + ([] : List Keyword).length + (if ([] : List Keyword).isEmpty then 0 else 1) < 30) = true := decide_eq_true (by simp at this ⊢; omega)
    rw [h30]
    rfl
  have star : ∀ {x : Expr} {ys : List Expr}, xs = x :: ys → starEach (x :: ys) X.env = (false, eval x X.env) :: starEach ys X.env ∧ (backTo p (starEach ys X.env)).any (·.1) = false := fun {x ys} e => by
    subst e
    cases args with
    | kcons a r =>
      obtain ⟨h1, h2⟩ := and_t hk
      exact ⟨star_of h1, (kargs (and_t h2).2).1⟩
    | _ => cases hk
  have zero : xs = [] → ∀ (r : V → List V → Hp → VK → Prop) σ H Q, tBM X.K "list" r to (tK K W (ev fn gl args)) σ H Q → tBM0 X.K "list" r to σ H Q := fun e r σ H Q q => by
    subst e
    cases args with
    | knil =>
      refine mo σ H _ _ (fun v H1 q => ?_) q
      obtain ⟨ty, F, δ, g, s, sr, q⟩ := q
      exact ⟨ty, q [] F H1 [] (Grow.refl s) .nil fun _ z => nomatch z⟩
    | _ => cases hk
  cases m with
  | app =>
    cases xs with
    | nil => cases hl
    | cons x ys => exact pe_bm PySem.F.plainAttrs_list PySem.F.slot_list_append PySem.F.type_list_append mt_append ho ha (base_of hb) (few rfl) he (star rfl).1 (star rfl).2
  | popAt =>
    cases xs with
    | nil => cases hl
    | cons x ys => exact pe_bm PySem.F.plainAttrs_list PySem.F.slot_list_pop PySem.F.type_list_pop mt_popAt ho ha (base_of hb) (few rfl) he (star rfl).1 (star rfl).2
  | ins =>
    cases xs with
    | nil => cases hl
    | cons x ys => exact pe_bm PySem.F.plainAttrs_list PySem.F.slot_list_insert PySem.F.type_list_insert mt_insert ho ha (base_of hb) (few rfl) he (star rfl).1 (star rfl).2
  | pop =>
    cases xs with
    | cons x ys => cases hl
    | nil => exact PE.imp (pe_bm0 PySem.F.plainAttrs_list PySem.F.slot_list_pop PySem.F.type_list_pop mt_pop ho (base_of hb) he) (zero rfl _)
  | clear =>
    cases xs with
    | cons x ys => cases hl
    | nil => exact PE.imp (pe_bm0 PySem.F.plainAttrs_list PySem.F.slot_list_clear PySem.F.type_list_clear mt_clear ho (base_of hb) he) (zero rfl _)
theorem tPt.mono {i : Nat} {m : List D → D → Res (List Nat)} : ∀ σ H Q Q', (∀ v H, Q v H → Q' v H) → tPt K W i m σ H Q → tPt K W i m σ H Q' := fun σ H Q Q' k q => by
  obtain ⟨F, δ, g, d0, v0, s, sr, e0, nd, ev0, q⟩ := q
  refine ⟨F, δ, g, d0, v0, s, sr, e0, nd, ev0, ?_⟩
  cases e : m δ d0 with
  | ok js => rw [e] at q; exact fun v F' H' a b => k _ _ (q v F' H' a b)
  | exc c fs => rw [e] at q; exact q
  | stuck => rw [e] at q; exact q
theorem R.own_lst {v : V} {ys : List D} {fp : List Addr} (r : R K F H v (.box true .lst ys) fp) : ∃ a vs fx, v = .ref a ∧ fp = a :: fx ∧ H a = some (.lst vs) ∧ F a = none ∧ Rs K F H vs ys fx ∧ a ∉ fx := by
  cases r with
  | own ha hk nf hs na =>
    cases hk
    exact ⟨_, _, _, rfl, rfl, ha, nf, hs, na⟩
theorem mop_non {m : Mop} {b : D} {ds : List D} {r : D × D} (hm : (m == .app || m == .clear) = true) (e : mopD m b ds = some r) : r.1 = .non := by
  unfold mopD at e
  split at e
  · split at e
    · cases e; rfl
    · cases e
  · cases hm
  · cases hm
  · cases hm
  · cases e; rfl
  · cases e
theorem isOwn_of {b : D} (h : isOwn b = true) : ∃ xs, b = .box true .lst xs := by
  unfold isOwn at h
  split at h
  · exact ⟨_, rfl⟩
  · cases h
end
section
variable {N : List Str} {K : Kx} {k : Nat} {fn : Str → Option (List D → Res D)} {gl : Str → Option D}
theorem pe_mut (hK : K.exc = none) {X : Cx} {W : WX} {sc : Scope} (c : Cok X W N sc K k fn gl) {i : Nat} {p : List E} {m : Mop} {args : E} {o : Expr} {xs : List Expr} {ap pos : Pos} (hl : xs.length = mopN m) (hb : notCall o = true) (he : (ap.endLine == pos.line) = true) (hpt : chPt N sc i p o = true) (hk : chKs N sc args xs = true) :
    PE X (.Call (.Attribute o (mopName m) ap) xs [] pos) (tX K W (evx fn gl (.mut i p m args))) := by
  refine PE.imp (pe_mop (fn := fn) (gl := gl) tPt.mono (pe_pt hK c hpt) ((snd hK args).pk c xs hk) hl hb he hk) fun σ H Q q => ?_
  rw [c.kfr]
  obtain ⟨F, δ, g, s, sr, q⟩ := q
  have q : RestX K W σ F H g (mutR fn gl i p m args δ) Q := q
  unfold mutR at q
  split at q
  · exact q.elim
  · exact q.elim
  · rename_i d0 hd e0
    have nd : d0 ≠ .dead := fun z => hd (by rw [z])
    obtain ⟨v0, ev0, r0⟩ := sr.rel i d0 e0 nd
    refine ⟨F, δ, g, d0, v0, s, sr, e0, nd, ev0, ?_⟩
    split at q
    · rename_i js ejs
      rw [ejs]
      split at q
      · exact q.elim
      · rename_i b eb
        split at q
        · rename_i ho
          obtain ⟨ys, rfl⟩ := isOwn_of ho
          intro v F1 H1 gr av
          obtain ⟨a, oo, vs, fx, rfl, ha, hk1, hs, na, ia, sub, nf, _⟩ := SR.rewrite (b' := .non) s sr gr e0 ev0 eb av rfl
          cases hk1
          refine ⟨.inl ⟨rfl, vs, SqL.of ha⟩, F1, δ, g, gr.fh, sr.grow gr, ?_⟩
          cases ea : ev fn gl args δ with
          | stuck => rw [ea] at q; exact q.elim
          | exc cc fs =>
            rw [ea] at q
            exact fun C d F' H' e1 b2 e2 => q C d F' H' g e1 (.same (gr.trans b2)) (sr.grow (gr.trans b2)) e2
          | ok da =>
            rw [ea] at q
            intro ws F2 H2 fa gr2 ra na2
            have g12 := gr.trans gr2
            cases em : mopD m (.box true .lst ys) (unT da) with
            | none => dsimp only at q; rw [em] at q; exact q.elim
            | some rr =>
              dsimp only at q
              rw [em] at q
              have av2 := av.mono gr2.hh
              obtain ⟨a2, oo2, vs2, fx2, e2a, ha2, hk2, hs2, na2', ia2, sub2, nf2, fin⟩ := SR.rewrite (b' := rr.2) s sr g12 e0 ev0 eb av2 rfl
              cases e2a
              cases hk2
              have djn : ∀ p ∈ fa, H p = none := fun p hp => gr.fresh (na2 p hp)
              refine mop_ok ha2 hs2 ra (fun p hp z => sr.fresh' (djn p hp) i (sub2 p z)) em fun v' vs' xs' fv fx' e' rs' rv' s1 s2 => ?_
              have nax : a ∉ fx' := fun z => by
                rcases s2 a z with w | w
                · exact na2' w
                · exact sr.fresh' (djn a w) i ia2
              obtain ⟨g', t, sr', off, at_i⟩ := fin .lst (.lst vs') vs' xs' fx' e' (.lst vs') rs' nax fun p hp => by
                rcases s2 p hp with w | w
                · exact .inl w
                · exact .inr (djn p w)
              have nfv : a ∉ fv := fun z => na2' (s1 a z).1
              refine q v' F2 _ g' fv t sr' (rv'.updL ha2 nfv) fun p hp => ⟨fun j hj => ?_, .inl ⟨i, sub2 p (s1 p hp).1⟩⟩
              by_cases hji : j = i
              · subst hji
                rcases at_i p hj with ⟨_, w⟩ | w
                · exact w (List.mem_cons_of_mem _ (s1 p hp).1)
                · rcases List.mem_cons.mp w with w | w
                  · exact na2' (w ▸ (s1 p hp).1)
                  · exact (s1 p hp).2 w
              · rw [off j hji] at hj
                exact sr.dis i j (fun z => hji z.symm) p (sub2 p (s1 p hp).1) hj
        · exact q.elim
    · rename_i cc fs ejs
      rw [ejs]
      exact fun C d F' H' e1 b2 e2 => q C d F' H' g e1 (.same b2) (sr.grow b2) e2
    · exact q.elim
theorem pe_mutt (hK : K.exc = none) {X : Cx} {W : WX} {sc : Scope} (c : Cok X W N sc K k fn gl) {e : E} {m : Mop} {args : E} {o : Expr} {xs : List Expr} {ap pos : Pos} (hl : xs.length = mopN m) (hb : notCall o = true) (he : (ap.endLine == pos.line) = true) (hp : chE N sc e o = true) (hk : chKs N sc args xs = true) :
    PE X (.Call (.Attribute o (mopName m) ap) xs [] pos) (tX K W (evx fn gl (.mutt e m args))) := by
  refine PE.imp (pe_mop (fn := fn) (gl := gl) (to := tE K W (ev fn gl e) e.view) (fun σ H Q Q' k q => tE.mono q k) ((snd hK e).pe c o hp).1 ((snd hK args).pk c xs hk) hl hb he hk) fun σ H Q q => ?_
  rw [c.kfr]
  obtain ⟨F, δ, g, s, sr, q⟩ := q
  refine ⟨F, δ, g, s, sr, ?_⟩
  have q : RestX K W σ F H g (match (ev fn gl e δ).bind (vlD e.view) with
    | .ok b => if isOwn b && (m == .app || m == .clear) then (match ev fn gl args δ with
      | .ok x => RX.opt ((mopD m b (unT x)).map fun r => (r.1, δ))
      | .exc c fs => .exc c fs δ
      | .stuck => .stuck) else .stuck
    | .exc c fs => .exc c fs δ
    | .stuck => .stuck) Q := q
  cases eo : ev fn gl e δ with
  | stuck => rw [eo] at q; exact q.elim
  | exc cc fs =>
    rw [eo] at q
    exact fun C d F' H' e1 b2 e2 => q C d F' H' g e1 (.same b2) (sr.grow b2) e2
  | ok d =>
    rw [eo] at q
    intro v F1 H1 fp gr r n
    have q : RestX K W σ F H g (match vlD e.view d with
      | .ok b => if isOwn b && (m == .app || m == .clear) then (match ev fn gl args δ with
        | .ok x => RX.opt ((mopD m b (unT x)).map fun r => (r.1, δ))
        | .exc c fs => .exc c fs δ
        | .stuck => .stuck) else .stuck
      | .exc c fs => .exc c fs δ
      | .stuck => .stuck) Q := q
    cases ev_ : vlD e.view d with
    | stuck => rw [ev_] at q; exact q.elim
    | exc c fs => unfold vlD at ev_; split at ev_ <;> cases ev_
    | ok d' =>
      obtain ⟨e1, e2⟩ := vl_ok ev_
      subst e1
      rw [ev_] at q
      dsimp only at q
      split at q
      · rename_i hcond
        obtain ⟨ho, hm⟩ := and_t hcond
        obtain ⟨ys, rfl⟩ := isOwn_of ho
        have n := vl_fresh e2 r n
        obtain ⟨a, vs, fx, rfl, rfl, ha, nf, hs, na⟩ := r.own_lst
        · refine ⟨.inl ⟨rfl, vs, SqL.of ha⟩, F1, δ, g, gr.fh, sr.grow gr, ?_⟩
          cases ea : ev fn gl args δ with
          | stuck => rw [ea] at q; exact q.elim
          | exc cc fs =>
            rw [ea] at q
            exact fun C d F' H' e1 b2 e2 => q C d F' H' g e1 (.same (gr.trans b2)) (sr.grow (gr.trans b2)) e2
          | ok da =>
            rw [ea] at q
            intro ws F2 H2 fa gr2 ra na2
            have g12 := gr.trans gr2
            cases em : mopD m (.box true .lst ys) (unT da) with
            | none => dsimp only at q; rw [em] at q; exact q.elim
            | some rr =>
              dsimp only at q
              rw [em] at q
              have ha2 := gr2.hh _ _ ha
              have hs2 := gr2.rs hs
              have hna : H a = none := n a List.mem_cons_self
              have nf2 : F2 a = none := (gr2.only a (by rw [ha]; simp)).trans nf
              have rnon : rr.1 = .non := mop_non hm em
              refine mop_ok ha2 hs2 ra (fun p hp z => ?_) em fun v' vs' xs' fv fx' e' rs' rv' s1 s2 => ?_
              · obtain ⟨_, k, o, vs, e, _⟩ := hs.there p z
                have := na2 p hp
                rw [e] at this
                cases this
              have gr3 : Grow F H F2 (L2.upd H2 a (.lst vs')) := ⟨g12.ff, fun p o e => by
                  rw [upd_ne (fun z => by subst z; rw [nf2] at e; cases e)]
                  exact g12.fh p o e, fun p o e => by
                  rw [upd_ne (fun z => by subst z; rw [hna] at e; cases e)]
                  exact g12.hh p o e, g12.only⟩
              rw [rnon] at rv'
              have q : RestX K W σ F H g (.ok rr.1 δ) Q := q
              rw [rnon] at q
              cases rv'.non_inv
              exact q .non F2 _ g [] (.same gr3) (sr.grow gr3) .non fun _ z => nomatch z
      · exact q.elim
theorem pe_mutm (hK : K.exc = none) {X : Cx} {W : WX} {sc : Scope} (c : Cok X W N sc K k fn gl) {i j : Nat} {p : List E} {o : Expr} {y : Str} {yp ap pos : Pos} (hb : notCall o = true) (he : (ap.endLine == pos.line) = true) (hpt : chPt N sc i p o = true) (hij : i ≠ j) (hy : (decide (N[j]? = some y) && (visB sc y && nodbg y)) = true) :
    PE X (.Call (.Attribute o "append" ap) [.Name y yp] [] pos) (tX K W (evx fn gl (.mutm i p j))) := by
  refine PE.imp (pe_bm PySem.F.plainAttrs_list PySem.F.slot_list_append PySem.F.type_list_append mt_append (pe_pt hK c hpt) (pa_cons (nm_pe c hy) pa_nil rfl) (base_of hb) rfl he rfl rfl) fun σ H Q q => ?_
  rw [c.kfr]
  obtain ⟨F, δ, g, s, sr, q⟩ := q
  have q : RestX K W σ F H g (mutmR fn gl i p j δ) Q := q
  unfold mutmR at q
  split at q
  · exact q.elim
  · exact q.elim
  rename_i dy hdy ey
  split at q
  · exact q.elim
  · exact q.elim
  rename_i d0 hd e0
  have nd : d0 ≠ .dead := fun z => hd (by rw [z])
  have ndy : dy ≠ .dead := fun z => hdy (by rw [z])
  obtain ⟨v0, ev0, r0⟩ := sr.rel i d0 e0 nd
  refine ⟨F, δ, g, d0, v0, s, sr, e0, nd, ev0, ?_⟩
  split at q
  · rename_i js ejs
    rw [ejs]
    split at q
    · exact q.elim
    · rename_i b eb
      split at q
      · rename_i ho
        obtain ⟨ys, rfl⟩ := isOwn_of ho
        intro v F1 H1 gr av
        have sr0 := sr.kill j
        have e0' : (δ.set j .dead)[i]? = some d0 := by rw [List.getElem?_set_ne (fun z => hij z.symm)]; exact e0
        obtain ⟨a, oo, vs, fx, rfl, ha, hk1, hs, na, ia, sub, nf, fin⟩ := SR.rewrite2 (b' := .box true .lst (ys ++ [dy])) sr0 gr e0' ev0 eb av rfl
        cases hk1
        rw [gset_ne hij] at ia sub
        obtain ⟨vy, evy, ry⟩ := sr.rel j dy ey ndy
        have em : mopD .app (.box true .lst ys) [dy] = if ys.length < sizeLine then some (.non, .box true .lst (ys ++ [dy])) else none := rfl
        rw [em] at q
        split at q
        · rename_i hz
          have hyg : ∀ p ∈ g j, ∀ k, p ∉ gset g j [] k := fun p hp k => by
            by_cases e : k = j
            · subst e; rw [gset_same]; exact fun z => nomatch z
            · rw [gset_ne e]; exact sr.dis j k (fun z => e z.symm) p hp
          have nay : a ∉ g j := fun z => sr.dis i j hij a ia z
          have rs2 := Rs.app hs (Rs.one (gr.r ry)) fun p hp hq => sr.dis i j hij p (sub p hp) hq
          obtain ⟨g', sr', off, at_i⟩ := fin .lst (.lst (vs ++ [vy])) _ _ _ rfl (.lst _) rs2 (fun z => by
            rcases List.mem_append.mp z with z | z
            · exact na z
            · exact nay z) fun p hp => by
              rcases List.mem_append.mp hp with z | z
              · exact .inl z
              · exact .inr (hyg p z)
          rw [List.set_comm _ _ (fun z => hij z.symm)] at sr'
          have hn : H a ≠ none := by
            obtain ⟨_, k, o, vs, e, _⟩ := sr.own i a ia
            rw [e]; simp
          have old : ∀ k p, p ∈ gset g j [] k → p ∈ g k := fun k p hp => by
            by_cases e : k = j
            · subst e; rw [gset_same] at hp; cases hp
            · rw [gset_ne e] at hp; exact hp
          have t : Tr F H g F1 (L2.upd H1 a (.lst (vs ++ [vy]))) g' := by
            refine ⟨gr.ff, fun p o e => ?_, fun p h o e => ?_, fun p _ n => gr.only p n, fun k p hp => .inl ?_⟩
            · rw [upd_ne (fun z => by
                subst z
                rw [nf] at e
                cases e)]
              exact gr.fh p o e
            · rw [upd_ne (fun z => by subst z; exact h i ia)]
              exact gr.hh p o e
            · by_cases e : k = i
              · subst e
                rcases at_i p hp with z | z
                · exact ⟨k, old k p z⟩
                · rcases List.mem_cons.mp z with rfl | z
                  · exact ⟨k, ia⟩
                  · rcases List.mem_append.mp z with z | z
                    · exact ⟨k, sub p z⟩
                    · exact ⟨j, z⟩
              · rw [off k e] at hp
                exact ⟨k, old k p hp⟩
          refine ⟨.inl ⟨rfl, vs, SqL.of ha⟩, vy, evy, a, vs, vy, rfl, rfl, ha, by rw [hs.length]; exact hz, ?_⟩
          exact q .non F1 _ g' [] t sr' .non fun _ z => nomatch z
        · exact q.elim
      · exact q.elim
  · rename_i cc fs ejs
    rw [ejs]
    exact fun C d F' H' e1 b2 e2 => q C d F' H' g e1 (.same b2) (sr.grow b2) e2
  · exact q.elim
end
section
variable {X : Cx} {W : WX} {P : Nat → Option V} {K : Kx} {σ : L2.St} {F H : Hp} {D : Ends} {δ : List PX.D} {g : Nat → List Addr}
theorem RestX.out {r : RX} {f : PX.D → List PX.D → Out} (hp : Pn P σ) (h : RestS K W P F H g (r.out f) D) : RestX K W σ F H g r fun v H1 => ∃ F1 g1 d fp δ1, Tr F H g F1 H1 g1 ∧ SR K F1 H1 σ δ1 g1 ∧ R K F1 H1 v d fp ∧ (∀ p ∈ fp, (∀ i, p ∉ g1 i) ∧ ((∃ j, p ∈ g j) ∨ H p = none)) ∧ RestS K W P F H g (f d δ1) D := by
  cases r with
  | ok d δ' => exact fun v F' H' g' fp t sr r n => ⟨F', g', d, fp, δ', t, sr, r, n, h⟩
  | exc c fs δ' => exact fun C d F' H' g' e t sr q => h C d F' σ H' g' e t sr hp q
  | stuck => exact h
theorem RestX.mono {r : RX} {Q Q' : VK} (h : RestX K W σ F H g r Q) (k : ∀ v H, Q v H → Q' v H) : RestX K W σ F H g r Q' := by
  cases r with
  | ok d δ' => exact fun v F' H' g' fp t sr r n => k _ _ (h v F' H' g' fp t sr r n)
  | exc c fs δ' => exact h
  | stuck => exact h
theorem Tr.keep {F1 H1 : Hp} {g1 g2 : Nat → List Addr} (t : Tr F H g F1 H1 g1) (n : ∀ i p, p ∈ g2 i → p ∈ g1 i ∨ ((∃ j, p ∈ g j) ∨ H p = none)) : Tr F H g F1 H1 g2 :=
  ⟨t.ff, t.fh, t.hh, t.only, fun i p hp => by
    rcases n i p hp with z | z
    · exact t.new i p z
    · exact z⟩
theorem im_xasg {m : List PX.D → RX} {i : Nat} (hi : P i = none) : ∀ D σ H, tS K W P (fun δ => (m δ).out fun d δ => .nx (δ.set i d)) D σ H → tAsg (tX K W m) (gName i) D σ H := fun D σ H q => by
  obtain ⟨F, δ, g, s, sr, hp, q⟩ := q
  refine ⟨F, δ, g, s, sr, (RestX.out (σ := σ) hp q).mono fun v H1 q => ?_⟩
  obtain ⟨F1, g1, d, fp, δ1, t, sr1, r, n, q⟩ := q
  refine q F1 _ H1 (gset g1 i fp) (t.keep fun j p hp => ?_) (sr1.set r fun p hp j _ => (n p hp).1 j) (hp.set hi _)
  by_cases e : j = i
  · subst e
    rw [gset_same] at hp
    exact .inr (n p hp).2
  · rw [gset_ne e] at hp
    exact .inl hp
theorem im_xasgt {m : List PX.D → RX} {is : List Nat} (hi : ∀ i ∈ is, P i = none) : ∀ D σ H, tS K W P (fun δ => (m δ).out fun d δ => match d with | .tup xs => if xs.length = is.length then .nx (setAll δ is xs) else .stuck | _ => .stuck) D σ H → tAsg (tX K W m) (gTup K.fr is.length (gNms is)) D σ H := fun D σ H q => by
  obtain ⟨F, δ, g, s, sr, hp, q⟩ := q
  refine ⟨F, δ, g, s, sr, (RestX.out (σ := σ) hp q).mono fun v H1 q => ?_⟩
  obtain ⟨F1, g1, d, fp, δ1, t, sr1, r, n, q⟩ := q
  split at q
  · rename_i xs
    split at q
    · rename_i hl
      obtain ⟨a, vs, rfl, ht, hs⟩ := r.tup_inv
      have hl' : vs.length = is.length := by rw [hs.length]; exact hl
      refine ⟨a, vs, rfl, ht, hl', nms_own hi hp sr1 hs (fun p hp j => (n p hp).1 j) hl' fun σ' g' s' hp' kg => ?_⟩
      refine q F1 σ' H1 g' (t.keep fun i p hp => ?_) s' hp'
      rcases kg i p hp with z | ⟨j, z⟩
      · exact .inr (n p z).2
      · rcases t.new j p z with w | w
        · exact .inr (.inl w)
        · exact .inr (.inr w)
    · exact q.elim
  · exact q.elim
theorem im_xdrop {m : List PX.D → RX} : ∀ D σ H, tS K W P (fun δ => (m δ).out fun _ δ => .nx δ) D σ H → tDrop (tX K W m) D σ H := fun D σ H q => by
  obtain ⟨F, δ, g, s, sr, hp, q⟩ := q
  refine ⟨F, δ, g, s, sr, (RestX.out (σ := σ) hp q).mono fun v H1 q => ?_⟩
  obtain ⟨F1, g1, d, fp, δ1, t, sr1, r, n, q⟩ := q
  exact q F1 σ H1 g1 t sr1 hp
/-! ### box[k] = v -/
def rSetA : V → V → V → Hp → (Hp → Prop) → Prop := fun o i v H Q => rSetL o i v H Q ∨ ∃ a H', o = .ref a ∧ DPut H a i v H' ∧ Q H'
theorem set_all (hu : X.A.units + 1 < cLine) : PSet X rSetA := by
  intro pins s σ H o i v ov iv u Q I ro ri rv h
  rcases h with h | ⟨a, H', rfl, g, q⟩
  · exact set_list pins s σ H o i v ov iv u Q I ro ri rv h
  · obtain rfl : ov = Value.ref a := ro
    exact d_setItem hu I g ri rv fun s' I' => ⟨H', I', q⟩
theorem putK_keys {κ : Type} [DecidableEq κ] (kvs : List (κ × V)) (k : κ) (v : V) : (putK kvs k v).map (·.1) = putKs (kvs.map (·.1)) k := by
  unfold putK putKs
  have e : (kvs.any fun kv => decide (kv.1 = k)) = decide (k ∈ kvs.map (·.1)) := by
    induction kvs with
    | nil => rfl
    | cons p r ih =>
      rw [List.any_cons, ih, List.map_cons]
      by_cases h : p.1 = k
      · simp [h]
      · have h' : ¬ k = p.1 := fun z => h z.symm
        simp [h, h']
  rw [e]
  by_cases h : k ∈ kvs.map (·.1)
  · rw [decide_eq_true h, if_pos h]
    simp only [if_true]
    rw [List.map_map]
    refine List.map_congr_left fun p _ => ?_
    show (if p.1 = k then (p.1, v) else p).1 = p.1
    split <;> rfl
  · rw [decide_eq_false h, if_neg h]
    simp
theorem putK_vals {κ : Type} [DecidableEq κ] (kvs : List (κ × V)) (k : κ) (v : V) (d : PX.D) (ds : List PX.D) (rs : Rs K F H (kvs.map (·.2)) ds []) (r : R K F H v d []) : Rs K F H ((putK kvs k v).map (·.2)) (putDs (kvs.map (·.1)) ds k d) [] := by
  unfold putK putDs
  have e : (kvs.any fun kv => decide (kv.1 = k)) = decide (k ∈ kvs.map (·.1)) := by
    clear rs
    induction kvs with
    | nil => rfl
    | cons p r ih =>
      rw [List.any_cons, ih, List.map_cons]
      by_cases h : p.1 = k
      · simp [h]
      · have h' : ¬ k = p.1 := fun z => h z.symm
        simp [h, h']
  rw [e]
  by_cases h : k ∈ kvs.map (·.1)
  · rw [decide_eq_true h, if_pos h]
    simp only [if_true]
    clear h e
    induction kvs generalizing ds with
    | nil =>
      cases rs
      exact .nil
    | cons p r' ih =>
      generalize ef : ([] : List Addr) = f0 at rs
      cases rs with
      | cons r1 rs1 n =>
        have e1 := List.append_eq_nil_iff.mp ef.symm
        rw [e1.1] at r1
        rw [e1.2] at rs1
        rw [List.map_cons, List.map_cons, List.map_cons, List.zipWith_cons_cons]
        rw [e1.1, e1.2]
        refine .cons (f := []) (g := []) ?_ (ih _ rs1) (fun _ z => nomatch z)
        show R K F H (if p.1 = k then (p.1, v) else p).2 (if p.1 = k then d else _) []
        split
        · exact r
        · exact r1
  · rw [decide_eq_false h, if_neg h]
    simp only [Bool.false_eq_true, if_false, List.map_append, List.map_cons, List.map_nil]
    exact rs.app0 (Rs.one r)
theorem RestS.out2 {F2 H2 : Hp} {r : Res PX.D} {f : PX.D → Out} {va : Bool} (sr : SR K F H σ δ g) (hp : Pn P σ) (t : Grow F H F2 H2) (h : RestS K W P F H g (r.out δ f) D) : Rest K W σ F2 H2 r va fun v H1 => ∃ F1 x fp, Grow F2 H2 F1 H1 ∧ R K F1 H1 v x fp ∧ (va = false → ∀ p ∈ fp, H2 p = none) ∧ RestS K W P F H g (f x) D := by
  cases r with
  | ok d => exact fun v F' H' fp b q n => ⟨F', d, fp, b, q, n, h⟩
  | exc c fs => exact fun C d F' H' e b q => h C d F' σ H' g e (.same (t.trans b)) (sr.grow (t.trans b)) hp q
  | stuck => exact h
theorem Grow.frzNew {F1 H1 : Hp} (gr : Grow F H F1 H1) {fp : List Addr} (n : ∀ p ∈ fp, H p = none) (nf : ∀ p ∈ fp, F1 p = none) (s : Same F H) : ∃ F2, Grow F H F2 H1 ∧ Same F1 F2 ∧ (∀ p ∈ fp, F2 p = H1 p) ∧ Same F2 H1 := by
  have ss : Same F1 (fun p => if p ∈ fp then H1 p else F1 p) := fun p o e => by
    have : p ∉ fp := fun z => by rw [nf p z] at e; cases e
    exact (if_neg this).trans e
  have s2 : Same (fun p => if p ∈ fp then H1 p else F1 p) H1 := fun p o e => by
    by_cases z : p ∈ fp
    · exact (if_pos z).symm.trans e
    · exact gr.fh p o ((if_neg z).symm.trans e)
  refine ⟨fun p => if p ∈ fp then H1 p else F1 p, ⟨gr.ff.trans ss, s2, gr.hh, fun p hp => ?_⟩, ss, fun p hp => if_pos hp, s2⟩
  have : p ∉ fp := fun z => hp (n p z)
  exact (if_neg this).trans (gr.only p hp)
theorem putB_inv {b y d b' : PX.D} (e : putB b y d = some b') :
    (∃ xs n j, b = .box true .lst xs ∧ y = .int n ∧ ixN xs.length n = some j ∧ b' = .box true .lst (xs.set j d)) ∨
    (∃ ks ds k, b = .box true (.dk ks) ds ∧ keyD y = some k ∧ ks.length < sizeLine ∧ PX.D.nos ds = true ∧ b' = .box true (.dk (putKs ks k)) (putDs ks ds k d.frz)) ∨
    ∃ ks ds xs k, b = .box true (.dt ks) ds ∧ y = .tup xs ∧ keysD xs = some k ∧ ks.length < sizeLine ∧ PX.D.nos ds = true ∧ b' = .box true (.dt (putKs ks k)) (putDs ks ds k d.frz) := by
  unfold putB at e
  split at e
  · obtain ⟨j, ej, rfl⟩ := Option.map_eq_some_iff.mp e
    exact .inl ⟨_, _, j, rfl, rfl, ej, rfl⟩
  · obtain ⟨k, ek, e⟩ := Option.bind_eq_some_iff.mp e
    split at e
    · rename_i hl
      cases e
      exact .inr (.inl ⟨_, _, k, rfl, ek, hl.1, hl.2, rfl⟩)
    · cases e
  · obtain ⟨k, ek, e⟩ := Option.bind_eq_some_iff.mp e
    split at e
    · rename_i hl
      cases e
      exact .inr (.inr ⟨_, _, _, k, rfl, rfl, ek, hl.1, hl.2, rfl⟩)
    · cases e
  · cases e
/-- box[k] = v -/
theorem im_put {m mk : List PX.D → Res PX.D} {mp : List PX.D → PX.D → Res (List Nat)} {va vk : Bool} {i : Nat} : ∀ D σ H, tS K W P (fun δ => ((m δ).bind (vlD va)).out δ (putS mk mp i δ)) D σ H → tAsg (tE K W m va) (gSub (tPt K W i mp) (tE K W mk vk) rSetA) D σ H := fun D σ H q => by
  obtain ⟨F, δ, g, s, sr, hp, q⟩ := q
  refine ⟨F, δ, g, s, sr, (RestS.vl sr hp q).mono fun v H1 q => ?_⟩
  obtain ⟨F1, d, fp, gr, r, n, q⟩ := q
  unfold putS at q
  split at q
  · exact q.elim
  · exact q.elim
  · rename_i c hd e0
    have nd : c ≠ .dead := fun z => hd (by rw [z])
    obtain ⟨v0, ev0, r0⟩ := sr.rel i c e0 nd
    refine ⟨F1, δ, g, c, v0, gr.fh, sr.grow gr, e0, nd, ev0, ?_⟩
    cases ejs : mp δ c with
    | stuck => rw [ejs] at q; exact q.elim
    | exc cc fs =>
      rw [ejs] at q
      exact fun C x F' H' e1 b2 e2 => q C x F' σ H' g e1 (.same (gr.trans b2)) (sr.grow (gr.trans b2)) hp e2
    | ok js =>
      rw [ejs] at q
      intro vo F2 H2 gr2 av
      have q : RestS K W P F H g (match atP c js with | none => .stuck | some b => (mk δ).out δ (putGo c js δ i b d)) D := q
      cases eb : atP c js with
      | none => rw [eb] at q; exact q.elim
      | some b =>
        rw [eb] at q
        have g12 := gr.trans gr2
        have q : RestS K W P F H g ((mk δ).out δ (putGo c js δ i b d)) D := q
        refine ⟨F2, δ, g, gr2.fh, sr.grow g12, (RestS.out2 (va := vk) sr hp g12 q).mono fun w H3 q3 => ?_⟩
        obtain ⟨F3, y, fy, gr3, ry, _, q4⟩ := q3
        have g13 := g12.trans gr3
        have av3 := av.mono gr3.hh
        have rv := (gr2.trans gr3).r r
        unfold putGo at q4
        split at q4
        · rename_i b' epb
          rcases putB_inv epb with ⟨xs, nn, j, rfl, rfl, ej, rfl⟩ | ⟨ks, ds, k, rfl, ek, hl1, hl2, rfl⟩ | ⟨ks, ds, ys, k, rfl, rfl, ek, hl1, hl2, rfl⟩
          · obtain ⟨a, oo, vs, fx, rfl, ha, hk, hs, na, ia, sub, nf, fin⟩ := SR.rewrite (b' := .box true .lst (xs.set j d)) s sr g13 e0 ev0 eb av3 rfl
            cases hk
            obtain ⟨_, hj, _⟩ := ixN_seq ej
            have ex : xs[j]? = some xs[j] := List.getElem?_eq_getElem hj
            obtain ⟨v1, f1, e1, r1, s1, rb⟩ := Rs.focus hs ex
            have nv : ∀ p ∈ fp, p ∉ fx := fun p hp z => sr.fresh' (n p hp) i (sub p z)
            obtain ⟨f', k1, k2⟩ := rb F3 H3 v _ fp (Same.refl _) (fun _ _ z => z) (fun p hp _ => ⟨rfl, (hs.there p hp).1⟩) rv fun p hp => .inr (nv p hp)
            obtain ⟨g', t, sr', _⟩ := fin .lst (.lst (vs.set j v)) _ _ f' rfl (.lst _) k1 (fun z => by
              rcases k2 a z with ⟨w, _⟩ | w
              · exact na w
              · exact sr.fresh' (n a w) i ia) fun p hp => by
              rcases k2 p hp with ⟨w, _⟩ | w
              · exact .inl w
              · exact .inr (n p w)
            exact .inl ⟨a, vs, nn, j, rfl, ry.int_inv, ha, by rw [hs.length]; exact ej, q4 F3 σ _ g' t sr' hp⟩
          · obtain ⟨F4, g14, s34, f4, s4⟩ := g13.frzNew n (fun p hp => (rv.there p hp).1) s
            obtain ⟨a, oo, vs, fx, rfl, ha, hk, hs, na, ia, sub, nf, fin⟩ := SR.rewrite (b' := .box true (.dk (putKs ks k)) (putDs ks ds k d.frz)) s sr g14 e0 ev0 eb av3 rfl
            cases hk with
            | dk kvs =>
              have rz := rv.freeze s34 f4
              have hs0 := hs.nos0 hl2
              obtain ⟨g', t, sr', _⟩ := fin (.dk (putKs (kvs.map (·.1)) k)) (.dK (putK kvs k v)) _ _ [] rfl (by rw [← putK_keys kvs k v]; exact .dk _) (putK_vals kvs k v _ _ hs0 rz) (fun z => nomatch z) fun p hp => nomatch hp
              have hw := key_v ry ek
              subst hw
              exact .inr ⟨a, _, rfl, DPut.k ha (by rw [List.length_map] at hl1; exact hl1), q4 F4 σ _ g' t sr' hp⟩
          · obtain ⟨F4, g14, s34, f4, s4⟩ := g13.frzNew n (fun p hp => (rv.there p hp).1) s
            obtain ⟨a, oo, vs, fx, rfl, ha, hk, hs, na, ia, sub, nf, fin⟩ := SR.rewrite (b' := .box true (.dt (putKs ks k)) (putDs ks ds k d.frz)) s sr g14 e0 ev0 eb av3 rfl
            cases hk with
            | dt kvs =>
              have rz := rv.freeze s34 f4
              have hs0 := hs.nos0 hl2
              obtain ⟨g', t, sr', _⟩ := fin (.dt (putKs (kvs.map (·.1)) k)) (.dT (putK kvs k v)) _ _ [] rfl (by rw [← putK_keys kvs k v]; exact .dt _) (putK_vals kvs k v _ _ hs0 rz) (fun z => nomatch z) fun p hp => nomatch hp
              obtain ⟨bb, ws, rfl, hb, hw⟩ := ry.tup_at
              rw [keys_v hw ek] at hb
              exact .inr ⟨a, _, rfl, DPut.t ha hb (by rw [List.length_map] at hl1; exact hl1), q4 F4 σ _ g' t sr' hp⟩
        · exact q4.elim
end
end PX

/-! PX, part r: calls of defs that change what they are handed. -/
namespace PX
open PySem PySem.Spec PyProof.Rows L2

section
variable {K : Kx} {σ : L2.St} {F H F2 H2 : Hp} {δ : List D} {g : Nat → List Addr}
/-! ### slots put aside and put back -/
theorem SR.moved (s : SR K F H σ δ g) (hF : Same F F2) (hT : ∀ a vs, H a = some (.tup vs) → H2 a = some (.tup vs)) (k : ∀ i p, p ∈ g i → H2 p = H p ∧ F2 p = none) : SR K F2 H2 σ δ g :=
  ⟨s.len, fun i d e n => by
    obtain ⟨v, e1, r⟩ := s.rel i d e n
    exact ⟨v, e1, r.mono hF hT fun p hp => k i p hp⟩, s.dis, fun i p hp => by
    obtain ⟨e, kd, o, vs, e2, hk⟩ := s.own i p hp
    exact ⟨(k i p hp).2, kd, o, vs, (k i p hp).1.trans e2, hk⟩⟩
theorem SR.kills (s : SR K F H σ δ g) : ∀ is : List Nat, ∃ g', SR K F H σ (wipeD δ is) g' ∧ (∀ i, i ∈ is → g' i = []) ∧ ∀ i, i ∉ is → g' i = g i
  | [] => ⟨g, s, (fun _ z => nomatch z), fun _ _ => rfl⟩
  | i :: is => by
    obtain ⟨g', s', k1, k2⟩ := SR.kills s is
    refine ⟨gset g' i [], s'.kill i, fun j hj => ?_, fun j hj => ?_⟩
    · by_cases e : j = i
      · subst e; exact gset_same
      · rw [gset_ne e]
        exact k1 j ((List.mem_cons.mp hj).resolve_left e)
    · have e : j ≠ i := fun z => hj (by rw [z]; exact List.mem_cons_self)
      rw [gset_ne e]
      exact k2 j fun z => hj (List.mem_cons_of_mem _ z)
abbrev Tri := Nat × D × List Addr
inductive DisT : List Tri → Prop
  | nil : DisT []
  | cons {t : Tri} {T : List Tri} : (∀ t' ∈ T, t'.1 ≠ t.1 ∧ ∀ p ∈ t.2.2, p ∉ t'.2.2) → DisT T → DisT (t :: T)
def ofT (T : List Tri) : List (Nat × D) := T.map fun t => (t.1, t.2.1)
theorem SR.fills : ∀ {T : List Tri} {δ : List D} {g : Nat → List Addr}, SR K F H σ δ g → DisT T → (∀ t ∈ T, ∃ v0, σ[t.1]? = some (some v0) ∧ R K F H v0 t.2.1 t.2.2) → (∀ t ∈ T, ∀ p ∈ t.2.2, ∀ j, p ∉ g j) →
    ∃ g', SR K F H σ (setL δ (ofT T)) g' ∧ ∀ j p, p ∈ g' j → p ∈ g j ∨ ∃ t ∈ T, t.1 = j ∧ p ∈ t.2.2
  | [], δ, g, s, _, _, _ => ⟨g, s, fun _ _ z => .inl z⟩
  | t :: T, δ, g, s, dt, hr, hn => by
    cases dt with
    | cons h1 h2 =>
      obtain ⟨v0, ev, r⟩ := hr t List.mem_cons_self
      have s1 : SR K F H σ (δ.set t.1 t.2.1) (gset g t.1 t.2.2) := s.upd ev r (fun _ _ z => z) (fun _ _ _ _ => rfl) fun p hp j _ => hn t List.mem_cons_self p hp j
      obtain ⟨g', s', k⟩ := SR.fills (T := T) s1 h2 (fun t' ht => hr t' (List.mem_cons_of_mem _ ht)) fun t' ht p hp j => by
        by_cases e : j = t.1
        · subst e
          rw [gset_same]
          exact fun z => (h1 t' ht).2 p z hp
        · rw [gset_ne e]
          exact hn t' (List.mem_cons_of_mem _ ht) p hp j
      refine ⟨g', s', fun j p hp => ?_⟩
      rcases k j p hp with z | ⟨t', ht, e, z⟩
      · by_cases e : j = t.1
        · subst e
          rw [gset_same] at z
          exact .inr ⟨t, List.mem_cons_self, rfl, z⟩
        · rw [gset_ne e] at z
          exact .inl z
      · exact .inr ⟨t', List.mem_cons_of_mem _ ht, e, z⟩
theorem wipeD_set {i : Nat} {d : D} : ∀ {is : List Nat}, i ∉ is → (wipeD δ is).set i d = wipeD (δ.set i d) is
  | [], _ => rfl
  | j :: is, h => by
    have hj : j ≠ i := fun z => h (by rw [z]; exact List.mem_cons_self)
    show ((wipeD δ is).set j .dead).set i d = (wipeD (δ.set i d) is).set j .dead
    rw [List.set_comm _ _ hj, wipeD_set fun z => h (List.mem_cons_of_mem _ z)]
theorem fill_wipe : ∀ {L : List (Nat × D)} {δ : List D}, (L.map (·.1)).Nodup → setL (wipeD δ (L.map (·.1))) L = setL δ L
  | [], _, _ => rfl
  | x :: L, δ, h => by
    rw [List.map_cons, List.nodup_cons] at h
    show setL (((wipeD δ (L.map (·.1))).set x.1 .dead).set x.1 x.2) L = setL (δ.set x.1 x.2) L
    rw [List.set_set, wipeD_set h.1, fill_wipe h.2]
/-! ### the arguments -/
/-- the arguments' values, as they are found one behind the other -/
inductive AV (K : Kx) (σ : L2.St) (δ : List D) : Hp → Hp → Hp → List V → List (D × Plc) → Prop
  | nil {H0 F H : Hp} : AV K σ δ H0 F H [] []
  | val {H0 H1 F H : Hp} {v : V} {vs : List V} {d : D} {l : List (D × Plc)} {fp : List Addr} : R K F H v d fp → (∀ p ∈ fp, H0 p = none) → (∀ p ∈ fp, H1 p ≠ none) → Same H0 H1 → AV K σ δ H1 F H vs l → AV K σ δ H0 F H (v :: vs) ((d, none) :: l)
  | io {H0 F H : Hp} {v v0 : V} {vs : List V} {d b : D} {l : List (D × Plc)} {i : Nat} {js : List Nat} : σ[i]? = some (some v0) → δ[i]? = some d → d ≠ .dead → atP d js = some b → AtV H v0 js v → AV K σ δ H0 F H vs l → AV K σ δ H0 F H (v :: vs) ((b, some (i, js)) :: l)
theorem AV.from {H0 H0' F H : Hp} (s : Same H0' H0) {vs : List V} {l : List (D × Plc)} (h : AV K σ δ H0 F H vs l) : AV K σ δ H0' F H vs l := by
  induction h generalizing H0' with
  | nil => exact .nil
  | val r n1 n2 s2 _ ih =>
    refine .val r (fun p hp => ?_) n2 (s.trans s2) (ih (Same.refl _))
    cases e : H0' p with
    | none => rfl
    | some o =>
      have := n1 p hp
      rw [s _ _ e] at this
      cases this
  | io e1 e2 e3 e4 a _ ih => exact .io e1 e2 e3 e4 a (ih s)
/-- and held against the slots -/
inductive AB (K : Kx) (σ : L2.St) (δ : List D) (g : Nat → List Addr) (F H : Hp) : List V → List (D × Plc) → List Addr → Prop
  | nil : AB K σ δ g F H [] [] []
  | val {v : V} {vs : List V} {d : D} {l : List (D × Plc)} {f fp : List Addr} : R K F H v d f → (∀ p ∈ f, ∀ i, p ∉ g i) → (∀ p ∈ f, p ∉ fp) → AB K σ δ g F H vs l fp → AB K σ δ g F H (v :: vs) ((d, none) :: l) (f ++ fp)
  | io {v v0 : V} {vs : List V} {d b : D} {l : List (D × Plc)} {i : Nat} {js : List Nat} {f fp : List Addr} : σ[i]? = some (some v0) → δ[i]? = some d → R K F H v b f → (∀ p ∈ f, p ∈ g i) → (∀ p ∈ fp, p ∉ g i) →
      (∀ (F' H' : Hp) (d2 : D) (f2 : List Addr), Same F F' → (∀ a vs, H a = some (.tup vs) → H' a = some (.tup vs)) → (∀ p ∈ g i, p ∉ f → H' p = H p ∧ F' p = none) → R K F' H' v d2 f2 → (∀ p ∈ f2, p ∈ f ∨ p ∉ g i) →
        ∃ f', R K F' H' v0 (setP d js d2) f' ∧ ∀ p ∈ f', (p ∈ g i ∧ p ∉ f) ∨ p ∈ f2) →
      i ∉ plIx (l.map (·.2)) → AB K σ δ g F H vs l fp → AB K σ δ g F H (v :: vs) ((b, some (i, js)) :: l) (f ++ fp)
theorem AB.rs {vs : List V} {l : List (D × Plc)} {fp : List Addr} (h : AB K σ δ g F H vs l fp) : Rs K F H vs (l.map (·.1)) fp := by
  induction h with
  | nil => exact .nil
  | val r _ n _ ih => exact .cons r ih n
  | io _ _ r s n _ _ _ ih => exact .cons r ih fun p hp z => n p z (s p hp)
theorem args_ab {H0 : Hp} (sr : SR K F H σ δ g) (al : ∀ i p, p ∈ g i → H0 p ≠ none) {vs : List V} {l : List (D × Plc)} (h : AV K σ δ H0 F H vs l) (dn : dstN (plIx (l.map (·.2))) = true) :
    ∃ fp, AB K σ δ g F H vs l fp ∧ ∀ p ∈ fp, (∃ j, j ∈ plIx (l.map (·.2)) ∧ p ∈ g j) ∨ H0 p = none := by
  induction h with
  | nil => exact ⟨[], .nil, fun _ z => nomatch z⟩
  | @val H0 H1 F H v vs d l fp r n1 n2 s2 _ ih =>
    obtain ⟨fq, ab, k⟩ := ih sr (fun i p hp => some_of_same s2 (al i p hp)) dn
    refine ⟨fp ++ fq, .val r (fun p hp i z => al i p z (n1 p hp)) (fun p hp hq => ?_) ab, fun p hp => ?_⟩
    · rcases k p hq with ⟨j, _, z⟩ | z
      · exact al j p z (n1 p hp)
      · exact n2 p hp z
    · rcases List.mem_append.mp hp with z | z
      · exact .inr (n1 p z)
      · rcases k p z with ⟨j, hj, z2⟩ | z2
        · exact .inl ⟨j, hj, z2⟩
        · refine .inr ?_
          cases e : H0 p with
          | none => rfl
          | some o => rw [s2 _ _ e] at z2; cases z2
  | @io H0 F H v v0 vs d b l i js e1 e2 e3 e4 a _ ih =>
    have dn : (!(plIx (l.map (·.2))).contains i && dstN (plIx (l.map (·.2)))) = true := dn
    obtain ⟨d1, d2⟩ := and_t dn
    have d1 : i ∉ plIx (l.map (·.2)) := by simpa using d1
    obtain ⟨fq, ab, k⟩ := ih sr al d2
    obtain ⟨v0', ev, r0⟩ := sr.rel i d e2 e3
    rw [e1] at ev
    cases ev
    obtain ⟨w, f1, aw, r1, sub, rb⟩ := R.focus r0 e4
    have ew := AtV.uniq a aw
    subst ew
    refine ⟨f1 ++ fq, .io e1 e2 r1 sub (fun p hp hq => ?_) rb d1 ab, fun p hp => ?_⟩
    · rcases k p hp with ⟨j, hj, z⟩ | z
      · exact sr.dis j i (fun e => d1 (e ▸ hj)) p z hq
      · exact al i p hq z
    · rcases List.mem_append.mp hp with z | z
      · exact .inl ⟨i, List.mem_cons_self, sub p z⟩
      · rcases k p z with ⟨j, hj, z2⟩ | z2
        · exact .inl ⟨j, List.mem_cons_of_mem _ hj, z2⟩
        · exact .inr z2
/-- behind the call: what the slots hold then -/
theorem AB.back {fa ga : List Addr} (sr : SR K F H σ δ g) (t : TrI F H fa F2 H2 ga) (hT : ∀ a vs, H a = some (.tup vs) → H2 a = some (.tup vs)) {vs : List V} {l : List (D × Plc)} {fp : List Addr} (h : AB K σ δ g F H vs l fp) :
    ∀ {bs : List D} {gp : List Addr}, Rs K F2 H2 vs bs gp → (∀ p ∈ gp, p ∈ ga) → (∀ i, i ∈ plIx (l.map (·.2)) → ∀ p ∈ g i, p ∈ fa → p ∈ fp) →
    ∃ T : List Tri, ofT T = putL δ (l.map (·.2)) bs ∧ T.map (·.1) = plIx (l.map (·.2)) ∧ DisT T ∧ (∀ t ∈ T, ∃ v0, σ[t.1]? = some (some v0) ∧ R K F2 H2 v0 t.2.1 t.2.2) ∧ ∀ t ∈ T, ∀ p ∈ t.2.2, (p ∈ g t.1 ∧ p ∉ fa) ∨ p ∈ gp := by
  induction h with
  | nil =>
    intro bs gp rs _ _
    cases rs
    exact ⟨[], rfl, rfl, .nil, (fun _ z => nomatch z), fun _ z => nomatch z⟩
  | @val v vs d l f fp r n1 n2 ab ih =>
    intro bs gp rs hg hx
    cases rs with
    | cons rb rbs nb =>
      rename_i b bs fb gb
      obtain ⟨T, t1, t2, t3, t4, t5⟩ := ih rbs (fun p hp => hg p (List.mem_append_right _ hp)) fun i hi p hp hfa => by
        rcases List.mem_append.mp (hx i hi p hp hfa) with z | z
        · exact absurd hp (n1 p z i)
        · exact z
      exact ⟨T, t1, t2, t3, t4, fun t ht p hp => (t5 t ht p hp).imp id fun z => List.mem_append_right _ z⟩
  | @io v v0 vs d b l i js f fp e1 e2 r1 sub n2 rb1 ni ab ih =>
    intro bs gp rs hg hx
    cases rs with
    | cons rb rbs nb =>
      rename_i b' bs fb gb
      have old : ∀ {p j}, p ∈ g j → H p ≠ none := fun {p j} hp => by
        obtain ⟨_, kd, o, ws, e, _⟩ := sr.own j p hp
        rw [e]; simp
      obtain ⟨T, t1, t2, t3, t4, t5⟩ := ih rbs (fun p hp => hg p (List.mem_append_right _ hp)) fun j hj p hp hfa => by
        have hij : i ≠ j := fun z => ni (z ▸ hj)
        rcases List.mem_append.mp (hx j (List.mem_cons_of_mem _ hj) p hp hfa) with z | z
        · exact absurd hp (sr.dis i j hij p (sub p z))
        · exact z
      have ef : ∀ p, p ∈ g i → p ∈ fa → p ∈ f := fun p hp hfa => by
        rcases List.mem_append.mp (hx i List.mem_cons_self p hp hfa) with z | z
        · exact z
        · exact absurd hp (n2 p z)
      have gold : ∀ {p j}, p ∈ ga → p ∈ g j → p ∈ fa := fun {p j} h1 h2 => by
        rcases t.new p h1 with z | z
        · exact z
        · exact absurd z (old h2)
      obtain ⟨f', k1, k2⟩ := rb1 F2 H2 b' fb t.ff hT (fun p hp n => by
        have nfa : p ∉ fa := fun z => n (ef p hp z)
        obtain ⟨en, kd, o, ws, e, _⟩ := sr.own i p hp
        exact ⟨(t.hh p nfa o e).trans e.symm, (t.only p nfa (old hp)).trans en⟩) rb fun p hp => by
        by_cases z : p ∈ g i
        · exact .inl (ef p z (gold (hg p (List.mem_append_left _ hp)) z))
        · exact .inr z
      refine ⟨(i, setP d js b', f') :: T, ?_, ?_, .cons (fun t' ht => ⟨?_, fun p hp hq => ?_⟩) t3, fun t' ht => ?_, fun t' ht p hp => ?_⟩
      · show (i, setP d js b') :: ofT T = (i, setP (δ.getD i .dead) js b') :: putL δ (l.map (·.2)) bs
        rw [t1]
        have : δ.getD i .dead = d := by rw [List.getD_eq_getElem?_getD, e2]; rfl
        rw [this]
      · show i :: T.map (·.1) = i :: plIx (l.map (·.2))
        rw [t2]
      · intro z
        have z : t'.1 = i := z
        exact ni (by rw [← t2, ← z]; exact List.mem_map_of_mem ht)
      · have hj : t'.1 ≠ i := fun z => ni (by rw [← t2, ← z]; exact List.mem_map_of_mem ht)
        rcases k2 p hp with ⟨z1, z2⟩ | z1
        · rcases t5 t' ht p hq with ⟨w1, w2⟩ | w1
          · exact sr.dis i t'.1 (fun e => hj e.symm) p z1 w1
          · exact z2 (ef p z1 (gold (hg p (List.mem_append_right _ w1)) z1))
        · rcases t5 t' ht p hq with ⟨w1, w2⟩ | w1
          · exact w2 (gold (hg p (List.mem_append_left _ z1)) w1)
          · exact nb p z1 w1
      · rcases List.mem_cons.mp ht with rfl | ht
        · exact ⟨v0, e1, k1⟩
        · exact t4 t' ht
      · rcases List.mem_cons.mp ht with rfl | ht
        · rcases k2 p hp with ⟨z1, z2⟩ | z1
          · exact .inl ⟨z1, fun z => z2 (ef p z1 z)⟩
          · exact .inr (List.mem_append_left _ z1)
        · exact (t5 t' ht p hp).imp id fun z => List.mem_append_right _ z
theorem dstN_nodup : ∀ {is : List Nat}, dstN is = true → is.Nodup
  | [], _ => .nil
  | i :: is, h => by
    have h : (!is.contains i && dstN is) = true := h
    obtain ⟨h1, h2⟩ := and_t h
    exact List.nodup_cons.mpr ⟨by simpa using h1, dstN_nodup h2⟩
/-- the slots behind the call -/
theorem call_slots {W : WX} {F1 H1 : Hp} (sr : SR K F H σ δ g) (gr : Grow F H F1 H1) {vs : List V} {l : List (D × Plc)} (av : AV K σ δ H F1 H1 vs l) (dn : dstN (plIx (l.map (·.2))) = true) :
    ∃ fp, Rs K F1 H1 vs (l.map (·.1)) fp ∧ ∀ (F2 H2 : Hp) (fd gp : List Addr) (bs : List D), TrI F1 H1 fp F2 H2 (fd ++ gp) → Rs K F2 H2 vs bs gp → (∀ p ∈ fd, p ∉ gp) →
      ∃ g2, Tr F H g F2 H2 g2 ∧ SR K F2 H2 σ (putAll δ (l.map (·.2)) bs) g2 ∧ ∀ p ∈ fd, (∀ i, p ∉ g2 i) ∧ ((∃ j, p ∈ g j) ∨ H p = none) := by
  have sr1 := sr.grow gr
  have old : ∀ {p j}, p ∈ g j → H p ≠ none := fun {p j} hp => by
    obtain ⟨_, kd, o, ws, e, _⟩ := sr.own j p hp
    rw [e]; simp
  obtain ⟨fp, ab, kfp⟩ := args_ab sr1 (fun i p hp => old hp) av dn
  refine ⟨fp, ab.rs, fun F2 H2 fd gp bs t rs dj => ?_⟩
  have old1 : ∀ {p}, H p ≠ none → H1 p ≠ none := fun {p} h => some_of_same gr.hh h
  have hT : ∀ a vs, H1 a = some (.tup vs) → H2 a = some (.tup vs) := fun a ws e => t.hh a (fun z => by
    obtain ⟨_, kd, o, us, e2, hk⟩ := ab.rs.there a z
    rw [e] at e2
    cases e2
    exact hk.not_tup rfl) _ e
  obtain ⟨T, t1, t2, t3, t4, t5⟩ := AB.back sr1 t hT ab rs (fun p hp => List.mem_append_right _ hp) fun i _ p _ hfa => hfa
  obtain ⟨g1, s1, k1, k2⟩ := sr1.kills (plIx (l.map (·.2)))
  have off : ∀ i p, p ∈ g1 i → p ∈ g i ∧ p ∉ fp ∧ i ∉ plIx (l.map (·.2)) := fun i p hp => by
    by_cases hi : i ∈ plIx (l.map (·.2))
    · rw [k1 i hi] at hp; cases hp
    · rw [k2 i hi] at hp
      refine ⟨hp, fun z => ?_, hi⟩
      rcases kfp p z with ⟨j, hj, w⟩ | w
      · exact sr.dis j i (fun e => hi (e ▸ hj)) p w hp
      · exact old hp w
  have s2 : SR K F2 H2 σ (wipeD δ (plIx (l.map (·.2)))) g1 := s1.moved t.ff hT fun i p hp => by
    obtain ⟨h1, h2, _⟩ := off i p hp
    obtain ⟨en, kd, o, ws, e, _⟩ := sr1.own i p h1
    exact ⟨(t.hh p h2 o e).trans e.symm, (t.only p h2 (by rw [e]; simp)).trans en⟩
  obtain ⟨g2, s3, k3⟩ := s2.fills t3 t4 fun t' ht p hp j hj => by
    obtain ⟨h1, h2, h3⟩ := off j p hj
    rcases t5 t' ht p hp with ⟨z1, z2⟩ | z1
    · exact sr.dis t'.1 j (fun e => h3 (by rw [← t2, ← e]; exact List.mem_map_of_mem ht)) p z1 h1
    · rcases t.new p (List.mem_append_right _ z1) with w | w
      · exact h2 w
      · exact old1 (old h1) w
  have eL : setL (wipeD δ (plIx (l.map (·.2)))) (ofT T) = putAll δ (l.map (·.2)) bs := by
    have e1 : (ofT T).map (·.1) = plIx (l.map (·.2)) := by
      rw [← t2]
      unfold ofT
      rw [List.map_map]
      rfl
    rw [← e1, fill_wipe (by rw [e1]; exact dstN_nodup dn), t1]
    rfl
  rw [eL] at s3
  have fpn : ∀ p, p ∈ fp → (∃ j, p ∈ g j) ∨ H p = none := fun p hp => by
    rcases kfp p hp with ⟨j, _, w⟩ | w
    · exact .inl ⟨j, w⟩
    · exact .inr w
  have newn : ∀ p, p ∈ fd ++ gp → (∃ j, p ∈ g j) ∨ H p = none := fun p hp => by
    rcases t.new p hp with z | z
    · exact fpn p z
    · exact .inr (gr.fresh z)
  have g2n : ∀ j p, p ∈ g2 j → (p ∈ g j ∧ p ∉ fp) ∨ p ∈ gp := fun j p hp => by
    rcases k3 j p hp with z | ⟨t', ht, rfl, z⟩
    · obtain ⟨h1, h2, _⟩ := off j p z
      exact .inl ⟨h1, h2⟩
    · exact t5 t' ht p z
  refine ⟨g2, ⟨gr.ff.trans t.ff, t.fh, fun p h o e => ?_, fun p h n => ?_, fun j p hp => ?_⟩, s3, fun p hp => ⟨fun i hi => ?_, newn p (List.mem_append_left _ hp)⟩⟩
  · refine t.hh p (fun z => ?_) o (gr.hh _ _ e)
    rcases fpn p z with ⟨j, w⟩ | w
    · exact h j w
    · rw [e] at w; cases w
  · refine (t.only p (fun z => ?_) (old1 n)).trans (gr.only p n)
    rcases fpn p z with ⟨j, w⟩ | w
    · exact h j w
    · exact n w
  · rcases g2n j p hp with ⟨z, _⟩ | z
    · exact .inl ⟨j, z⟩
    · exact newn p (List.mem_append_right _ z)
  · rcases g2n i p hi with ⟨z1, z2⟩ | z
    · rcases t.new p (List.mem_append_left _ hp) with w | w
      · exact z2 w
      · exact old1 (old z1) w
    · exact dj p hp z
end
/-! ### the arguments' reading -/
def RestG (K : Kx) (W : WX) (σ : L2.St) (δ : List D) (F H : Hp) (r : Res (List (D × Plc))) (Q : List V → Hp → Prop) : Prop :=
  match r with
  | .ok l => ∀ vs F' H', Grow F H F' H' → AV K σ δ H F' H' vs l → Q vs H'
  | .exc c fs => ∀ C d F' H', K.ca c = some C → Grow F H F' H' → ExD fs d → W (.ref C) d σ H'
  | .stuck => False
def tG (K : Kx) (W : WX) (m : List D → Res (List (D × Plc))) : TA := fun σ H Q => ∃ F δ g, Same F H ∧ SR K F H σ δ g ∧ RestG K W σ δ F H (m δ) Q
section
variable {N : List Str} {K : Kx} {k : Nat} {fn : Str → Option (List D → Res D)} {gl : Str → Option D}
theorem RestG.cons {W : WX} {σ : L2.St} {δ : List D} {F H F1 H1 : Hp} {r : Res (List (D × Plc))} {x : D × Plc} {v : V} {Q : List V → Hp → Prop} (h : RestG K W σ δ F H (r.bind fun l => .ok (x :: l)) Q) (gr : Grow F H F1 H1)
    (k : ∀ {F' H' vs l}, Grow F1 H1 F' H' → AV K σ δ H1 F' H' vs l → AV K σ δ H F' H' (v :: vs) (x :: l)) : RestG K W σ δ F1 H1 r fun vs H2 => Q (v :: vs) H2 := by
  cases r with
  | ok l => exact fun vs F' H' g2 av => h (v :: vs) F' H' (gr.trans g2) (k g2 av)
  | exc c fs => exact fun C d F' H' e b q => h C d F' H' e (gr.trans b) q
  | stuck => exact h
theorem pa_args (hK : K.exc = none) {X : Cx} {W : WX} {sc : Scope} (c : Cok X W N sc K k fn gl) : ∀ (as : List Arg) (xs : List Expr), chAs N sc as xs = true → PA X xs (tG K W (argsD fn gl as))
  | [], xs, h => by
    cases xs with
    | cons _ _ => cases h
    | nil =>
      refine PA.imp pa_nil fun σ H Q q => ?_
      obtain ⟨F, δ, g, s, sr, q⟩ := q
      exact q [] F H (Grow.refl s) .nil
  | .io i p :: as, xs, h => by
    cases xs with
    | nil => cases h
    | cons x xs =>
      obtain ⟨h1, h2⟩ := and_t h
      obtain ⟨h2, h3⟩ := and_t h2
      refine PA.imp (pa_cons (pe_pt (W := W) hK c h2) (pa_args hK c as xs h3) (star_of h1)) fun σ H Q q => ?_
      obtain ⟨F, δ, g, s, sr, q⟩ := q
      have q : RestG K W σ δ F H ((ioR fn gl i p δ).bind fun x => (argsD fn gl as δ).bind fun r => .ok (x :: r)) Q := q
      unfold ioR at q
      split at q
      · exact q.elim
      · exact q.elim
      · rename_i d hd e0
        have nd : d ≠ .dead := fun z => hd (by rw [z])
        obtain ⟨v0, ev0, r0⟩ := sr.rel i d e0 nd
        refine ⟨F, δ, g, d, v0, s, sr, e0, nd, ev0, ?_⟩
        cases ejs : pthD fn gl p δ d with
        | stuck => rw [ejs] at q; exact q.elim
        | exc cc fs => rw [ejs] at q; exact q
        | ok js =>
          rw [ejs] at q
          intro v F1 H1 gr av
          have q : RestG K W σ δ F H ((ioK d i js).bind fun x => (argsD fn gl as δ).bind fun r => .ok (x :: r)) Q := q
          unfold ioK at q
          cases ea : atP d js with
          | none => rw [ea] at q; exact q.elim
          | some b =>
            rw [ea] at q
            dsimp only at q
            split at q
            · exact ⟨F1, δ, g, gr.fh, sr.grow gr, RestG.cons q gr fun g2 a2 => .io ev0 e0 nd ea (av.mono g2.hh) (a2.from gr.hh)⟩
            · exact q.elim
  | .val e :: as, xs, h => by
    cases xs with
    | nil => cases h
    | cons x xs =>
      obtain ⟨h1, h2⟩ := and_t h
      obtain ⟨h2, h3⟩ := and_t h2
      refine PA.imp (pa_cons ((snd hK e).pe (W := W) c x h2).1 (pa_args hK c as xs h3) (star_of h1)) fun σ H Q q => ?_
      obtain ⟨F, δ, g, s, sr, q⟩ := q
      have q : RestG K W σ δ F H (((ev fn gl e δ).bind (vlD e.view)).bind fun d => (argsD fn gl as δ).bind fun r => .ok ((d, none) :: r)) Q := q
      refine ⟨F, δ, g, s, sr, ?_⟩
      cases ed : ev fn gl e δ with
      | stuck => rw [ed] at q; exact q.elim
      | exc cc fs => rw [ed] at q; exact q
      | ok d =>
        rw [ed] at q
        intro v F1 H1 fp gr r n
        have q : RestG K W σ δ F H ((vlD e.view d).bind fun d => (argsD fn gl as δ).bind fun r => .ok ((d, none) :: r)) Q := q
        cases ev_ : vlD e.view d with
        | stuck => rw [ev_] at q; exact q.elim
        | exc cc fs => unfold vlD at ev_; split at ev_ <;> cases ev_
        | ok d' =>
          obtain ⟨e1, e2⟩ := vl_ok ev_
          subst e1
          rw [ev_] at q
          have nn := vl_fresh e2 r n
          refine ⟨F1, δ, g, gr.fh, sr.grow gr, RestG.cons (v := v) q gr fun g2 a2 => ?_⟩
          refine .val (g2.r r) nn (fun p hp => ?_) gr.hh a2
          obtain ⟨_, kd, o, ws, e, _⟩ := r.there p hp
          rw [e]; simp
theorem xc_end {W : WX} {σ : L2.St} {F H F1 H1 : Hp} {δ : List D} {g : Nat → List Addr} {Q : VK} {Fn : List D → Res D} {vs : List V} {l : List (D × Plc)} (sr : SR K F H σ δ g) (gr : Grow F H F1 H1) (av : AV K σ δ H F1 H1 vs l) (dn : dstN (plIx (l.map (·.2))) = true)
    (q : RestX K W σ F H g (xcE δ (l.map (·.2)) (Fn (l.map (·.1)))) Q) : spI K Fn vs H1 Q (WE W σ) := by
  obtain ⟨fp, rs, kk⟩ := call_slots (W := W) sr gr av dn
  refine ⟨F1, l.map (·.1), fp, gr.fh, rs, ?_⟩
  generalize Fn (l.map (·.1)) = r at q
  unfold xcE at q
  split at q
  · rename_i d bs
    split at q
    · intro v F' H' fd gp t rb rd dj
      obtain ⟨g2, t2, s2, k2⟩ := kk F' H' fd gp bs t rb dj
      exact q v F' H' g2 fd t2 s2 rd k2
    · exact q.elim
  · rename_i c bs
    split at q
    · intro C F' H' gp hC t rb
      obtain ⟨g2, t2, s2, k2⟩ := kk F' H' [] gp bs t rb (fun _ z => nomatch z)
      exact q C none F' H' g2 hC t2 s2 ⟨rfl, rfl⟩
    · exact q.elim
  · exact q.elim
theorem chAs_f {sc : Scope} {env : Env} {pos : Pos} : ∀ {as : List Arg} {xs : List Expr}, chAs N sc as xs = true → (backTo pos (starEach xs env)).all (fun x => !x.1) = true ∧ (backTo pos (starEach xs env)).any (·.1) = false ∧ ∀ x ys, xs = x :: ys → notStar x = true ∧ ∃ bs, chAs N sc bs ys = true
  | as, [], _ => ⟨rfl, rfl, fun _ _ z => nomatch z⟩
  | as, x :: xs, h => by
    have key : notStar x = true ∧ ∃ bs, chAs N sc bs xs = true := by
      cases as with
      | nil => cases h
      | cons a as =>
        cases a with
        | io i p =>
          obtain ⟨h1, h2⟩ := and_t h
          exact ⟨h1, as, (and_t h2).2⟩
        | val e =>
          obtain ⟨h1, h2⟩ := and_t h
          exact ⟨h1, as, (and_t h2).2⟩
    obtain ⟨h1, bs, h2⟩ := key
    obtain ⟨k1, k2, _⟩ := chAs_f (env := env) (pos := pos) h2
    rw [star_of h1]
    refine ⟨?_, ?_, fun y ys e => by cases e; exact ⟨h1, bs, h2⟩⟩
    · show (true && (backTo pos (starEach xs env)).all (fun x => !x.1)) = true
      rw [k1]; rfl
    · show (false || (backTo pos (starEach xs env)).any (·.1)) = false
      rw [k2]; rfl
theorem xcL_end {W : WX} {σ : L2.St} {F H F1 H1 : Hp} {δ : List D} {g : Nat → List Addr} {Q : VK} {Fn : List D → Res D} {vs : List V} {l : List (D × Plc)} (sr : SR K F H σ δ g) (gr : Grow F H F1 H1) (av : AV K σ δ H F1 H1 vs l)
    (q : RestX K W σ F H g (xcL Fn δ l) Q) : spI K Fn vs H1 Q (WE W σ) := by
  unfold xcL at q
  split at q
  · rename_i hd
    exact xc_end sr gr av hd q
  · exact q.elim
theorem RestX.rx {W : WX} {σ : L2.St} {F H : Hp} {δ : List D} {g : Nat → List Addr} {Q : VK} {r : Res (List (D × Plc))} {f : List (D × Plc) → RX} {F1 H1 : Hp} {QG : List V → Hp → Prop} (sr : SR K F H σ δ g) (gr : Grow F H F1 H1) (q : RestX K W σ F H g (r.rx δ f) Q)
    (k : ∀ l, r = .ok l → RestX K W σ F H g (f l) Q → ∀ vs F' H', Grow F1 H1 F' H' → AV K σ δ H1 F' H' vs l → QG vs H') : RestG K W σ δ F1 H1 r QG := by
  cases r with
  | ok l => exact k l rfl q
  | exc c fs => exact fun C d F' H' e b q2 => q C d F' H' g e (.same (gr.trans b)) (sr.grow (gr.trans b)) q2
  | stuck => exact q
/-- a def that changes what it is handed -/
theorem pe_xcF (hK : K.exc = none) {X : Cx} {W : WX} {sc : Scope} (c : Cok X W N sc K k fn gl) {m : Str} {as : List Arg} {x : Expr} {xs : List Expr} {p0 pos : Pos} (hg : glB sc m = true) (ha : chAs N sc as (x :: xs) = true) :
    PE X (.Call (.Name m p0) (x :: xs) [] pos) (tX K W (evx fn gl (.xc m as))) := by
  cases ef : fn (keyX Str.empty m) with
  | none =>
    refine ⟨fun pins s σ H Q I q => ?_⟩
    obtain ⟨F, δ, g, s, sr, q⟩ := q
    have q : RestX K W σ F H g (xcR fn gl m as δ) Q := q
    unfold xcR at q
    rw [ef] at q
    exact q.elim
  | some Fn =>
    obtain ⟨a, fd, ps, A⟩ := c.g.fnx hK m Fn ef
    have ok := A.ok
    have kp := A.kp
    have bd := A.bd
    rw [← c.kfr] at ok kp bd
    obtain ⟨_, k2, k3⟩ := chAs_f (env := X.env) (pos := pos) ha
    obtain ⟨hs, bs, hb⟩ := k3 x xs rfl
    refine PE.imp (pe_callS ok (c.rm hK) (c.glo hg).1 A.at_ kp bd (fun σ => L2N.passAt c.tk σ) (pa_args (W := W) hK c as _ ha) (c.glo hg).2.1 (star_of hs) (chAs_f hb).2.1) fun σ H Q q => ?_
    obtain ⟨F, δ, g, s, sr, q⟩ := q
    have q : RestX K W σ F H g (xcR fn gl m as δ) Q := q
    unfold xcR at q
    rw [ef] at q
    exact ⟨F, δ, g, s, sr, RestX.rx sr (Grow.refl s) q fun l _ q2 vs F' H' gr av => xcL_end sr gr av q2⟩
/-- a method that changes its instance -/
theorem pe_xcM (hK : K.exc = none) {X : Cx} {W : WX} {sc : Scope} (c : Cok X W N sc K k fn gl) {cc m : Str} {i : Nat} {p : List E} {as : List Arg} {o : Expr} {xs : List Expr} {ap pos : Pos} (hc0 : cc ≠ Str.empty) (hb : bare cc = true) (hm : m ≠ "__init__") (hl : (ap.endLine == pos.line) = true) (hn : xs.length < 29) (hp : chPt N sc i p o = true) (ha : chAs N sc as xs = true) :
    PE X (.Call (.Attribute o m ap) xs [] pos) (tX K W (evx fn gl (.xcm cc m i p as))) := by
  cases ef : fn (keyX cc m) with
  | none =>
    refine ⟨fun pins s σ H Q I q => ?_⟩
    obtain ⟨F, δ, g, s, sr, q⟩ := q
    have q : RestX K W σ F H g (xcmR fn gl cc m i p as δ) Q := q
    unfold xcmR at q
    rw [ef] at q
    exact q.elim
  | some Fn =>
    obtain ⟨C, a, fd, ps, A⟩ := c.g.mtx hK cc m Fn hb hc0 hm ef
    have ok := A.ok
    have cl := A.cl
    have mt := A.mt
    have bd := A.bd
    have rd : ∀ (t : TA), (∀ σ H Q, tG K W (argsD fn gl as) σ H Q → t σ H Q) → ∀ σ H Q, tX K W (evx fn gl (.xcm cc m i p as)) σ H Q → tMethS2 C m (spI K Fn) (WE W) (tPt K W i (pthD fn gl p)) t σ H Q := fun t ht σ H Q q => by
      obtain ⟨F, δ, g, s, sr, q⟩ := q
      have q : RestX K W σ F H g (xcmR fn gl cc m i p as δ) Q := q
      unfold xcmR at q
      rw [ef] at q
      have q : RestX K W σ F H g ((ioR fn gl i p δ).rx δ (xcmG cc Fn (argsD fn gl as δ) δ)) Q := q
      unfold ioR at q
      split at q
      · exact q.elim
      · exact q.elim
      · rename_i d hd e0
        have nd : d ≠ .dead := fun z => hd (by rw [z])
        obtain ⟨v0, ev0, r0⟩ := sr.rel i d e0 nd
        refine ⟨F, δ, g, d, v0, s, sr, e0, nd, ev0, ?_⟩
        cases ejs : pthD fn gl p δ d with
        | stuck => rw [ejs] at q; exact q.elim
        | exc cx fs =>
          rw [ejs] at q
          exact fun C d F' H' e b q2 => q C d F' H' g e (.same b) (sr.grow b) q2
        | ok js =>
          rw [ejs] at q
          intro v F1 H1 gr av
          have q : RestX K W σ F H g ((ioK d i js).rx δ (xcmG cc Fn (argsD fn gl as δ) δ)) Q := q
          unfold ioK at q
          cases ea : atP d js with
          | none => rw [ea] at q; exact q.elim
          | some b =>
            rw [ea] at q
            dsimp only at q
            split at q
            rotate_left
            · exact q.elim
            have q : RestX K W σ F H g (xcmG cc Fn (argsD fn gl as δ) δ (b, some (i, js))) Q := q
            unfold xcmG at q
            split at q
            rotate_left
            · exact q.elim
            rename_i hr
            have hob : ∃ ns ds, b = .box true (.ob cc ns) ds := by
              unfold recB at hr
              split at hr
              · rename_i ez
                cases ez
                have := of_decide_eq_true hr
                subst this
                exact ⟨_, _, rfl⟩
              · cases hr
            obtain ⟨ns, ds, rfl⟩ := hob
            obtain ⟨w, f1, aw, r1, _⟩ := R.focus (gr.r r0) ea
            have ew := AtV.uniq av aw
            subst ew
            obtain ⟨ad, C', dx, fs, f0, rfl, ha, hca, hcl, hna, hns, rs, sub⟩ := r1.ob_inv gr.fh
            have eC : C' = C := Option.some.inj (hca.symm.trans A.ca)
            subst eC
            exact ⟨ad, dx, fs, rfl, ha, no_fld mt hna, ht _ _ _ ⟨F1, δ, g, gr.fh, sr.grow gr, RestX.rx sr gr q fun l _ q2 vs F2 H2 gr2 av2 => xcL_end (l := (.box true (.ob cc ns) ds, some (i, js)) :: l) sr (gr.trans gr2) (.io ev0 e0 nd ea (av.mono gr2.hh) (av2.from gr.hh)) q2⟩⟩
    rw [← c.kfr] at cl mt bd ok
    obtain ⟨k1, k2, k3⟩ := chAs_f (env := X.env) (pos := pos) ha
    have eq := mcall_eq (base_of (n := m) (env := X.env) (chPr_nc hp)) (few_of k1 hn) hl
    cases xs with
    | nil =>
      cases as with
      | cons a as => cases a <;> cases ha
      | nil =>
        refine PE.imp (pe_methS20 (apos := ap) (pos := pos) (pl := plOf o X.env) (pe_pt (W := W) hK c hp) cl mt ok (c.rm hK) bd (fun σ => L2N.passAt c.tk σ) eq) (rd tNil fun σ H Q q => ?_)
        obtain ⟨F, δ, g, s, sr, q⟩ := q
        exact q [] F H (Grow.refl s) .nil
    | cons x xs =>
      obtain ⟨hs, bs, hb2⟩ := k3 x xs rfl
      exact PE.imp (pe_methS2 (apos := ap) (pos := pos) (pl := plOf o X.env) (pe_pt (W := W) hK c hp) cl mt ok (c.rm hK) bd (fun σ => L2N.passAt c.tk σ) (pa_args (W := W) hK c as _ ha) (star_of hs) (chAs_f hb2).2.1 eq) (rd _ fun σ H Q q => q)
theorem RestX.bind {W : WX} {σ : L2.St} {F H : Hp} {g : Nat → List Addr} {Q : VK} {r : RX} {f : D → List D → RX} (h : RestX K W σ F H g (r.bind f) Q) :
    RestX K W σ F H g r fun v H1 => ∃ F1 g1 d fp δ1, Tr F H g F1 H1 g1 ∧ SR K F1 H1 σ δ1 g1 ∧ R K F1 H1 v d fp ∧ (∀ p ∈ fp, (∀ i, p ∉ g1 i) ∧ ((∃ j, p ∈ g j) ∨ H p = none)) ∧ RestX K W σ F H g (f d δ1) Q := by
  cases r with
  | ok d δ' => exact fun v F' H' g' fp t sr r n => ⟨F', g', d, fp, δ', t, sr, r, n, h⟩
  | exc c fs δ' => exact h
  | stuck => exact h
/-- x.append(what changes boxes of other slots) -/
theorem pe_mutx (hK : K.exc = none) {X : Cx} {W : WX} {sc : Scope} (c : Cok X W N sc K k fn gl) {i : Nat} {x : PX.X} {y : Str} {v : Expr} {py ap pos : Pos} (hl : (ap.endLine == pos.line) = true) (hy : chNm N sc i y = true) (hs : notStar v = true) (hv : PE X v (tX K W (evx fn gl x))) :
    PE X (.Call (.Attribute (.Name y py) "append" ap) [v] [] pos) (tX K W (evx fn gl (.mutx i x))) := by
  refine PE.imp (pe_bm PySem.F.plainAttrs_list PySem.F.slot_list_append PySem.F.type_list_append mt_append (nm_pe (p := py) c hy) (pa_cons hv pa_nil (star_of hs)) rfl (by rw [star_of hs]; rfl) hl (star_of hs) rfl) fun σ H Q q => ?_
  rw [c.kfr]
  obtain ⟨F, δ, g, s, sr, q⟩ := q
  have q : RestX K W σ F H g (match δ[i]? with
    | some (.box true .lst ys) => (evx fn gl x δ).bind fun d δ' => mutxE i (.box true .lst ys) d δ'
    | _ => .stuck) Q := q
  split at q
  rotate_left
  · exact q.elim
  rename_i ys ei
  obtain ⟨a, vs, fp0, ev, eg, hl1, rs, na⟩ := sr.ownL ei
  refine ⟨.ref a, ev, .inl ⟨rfl, vs, SqL.of hl1⟩, F, δ, g, s, sr, (RestX.bind q).mono fun w H1 q => ?_⟩
  obtain ⟨F1, g1, d, fp, δ1, t, sr1, r, n, q⟩ := q
  unfold mutxE at q
  split at q
  rotate_left
  · exact q.elim
  rename_i ys' zs e0 e1
  cases e0
  split at q
  rotate_left
  · exact q.elim
  rename_i hz
  obtain ⟨a', ws, fp1, ev', eg1, hl2, rs1, na1⟩ := sr1.ownL e1
  rw [ev] at ev'
  cases ev'
  have ha : a ∈ g1 i := by rw [eg1]; exact List.mem_cons_self
  have sub : ∀ p ∈ fp1, p ∈ g1 i := fun p hp => by rw [eg1]; exact List.mem_cons_of_mem _ hp
  have rs2 := Rs.app rs1 (Rs.one r) fun p hp hq => (n p hq).1 i (sub p hp)
  have nf : F1 a = none := (sr1.own i a ha).1
  refine ⟨a, ws, w, rfl, rfl, hl2, by rw [rs1.length]; omega, ?_⟩
  refine q .non F1 _ (gset g1 i (a :: (fp1 ++ fp))) [] ⟨t.ff, fun p o e => ?_, fun p h o e => ?_, fun p h n2 => t.only p h n2, fun j p hp => ?_⟩ (sr1.putL ev ha hl2 rs2 (fun z => ?_) fun p hp j hj => ?_) .non fun _ z => nomatch z
  · rw [upd_ne (fun z => by subst z; rw [nf] at e; cases e)]
    exact t.fh p o e
  · rw [upd_ne (fun z => by
      subst z
      rcases t.new i p ha with ⟨j, w⟩ | w
      · exact h j w
      · rw [w] at e; cases e)]
    exact t.hh p h o e
  · by_cases e : j = i
    · subst e
      rw [gset_same] at hp
      rcases List.mem_cons.mp hp with rfl | hp
      · exact t.new j p ha
      · rcases List.mem_append.mp hp with z | z
        · exact t.new j p (sub p z)
        · exact (n p z).2
    · rw [gset_ne e] at hp
      exact t.new j p hp
  · rcases List.mem_append.mp z with z | z
    · exact na1 z
    · exact (n a z).1 i ha
  · rcases List.mem_append.mp hp with z | z
    · exact fun z2 => sr1.dis i j (fun e => hj e.symm) p (sub p z) z2
    · exact (n p z).1 j
theorem drop_ok {κ : Type} [DecidableEq κ] {k0 : κ} {F H : Hp} : ∀ {kvs : List (κ × V)} {ds : List D}, Rs K F H (kvs.map (·.2)) ds [] → (dropK kvs k0).map (·.1) = (dropKs k0 (kvs.map (·.1)) ds).1 ∧ Rs K F H ((dropK kvs k0).map (·.2)) (dropKs k0 (kvs.map (·.1)) ds).2 []
  | [], ds, h => by cases h; exact ⟨rfl, .nil⟩
  | kv :: kvs, ds, h => by
    generalize ef : ([] : List Addr) = f0 at h
    cases h with
    | cons r rs n =>
      rename_i d ds f g
      have e1 := List.append_eq_nil_iff.mp ef.symm
      rw [e1.1] at r
      rw [e1.2] at rs
      obtain ⟨k1, k2⟩ := drop_ok (k0 := k0) rs
      have eD : dropKs k0 ((kv :: kvs).map (·.1)) (d :: ds) = if kv.1 = k0 then dropKs k0 (kvs.map (·.1)) ds else (kv.1 :: (dropKs k0 (kvs.map (·.1)) ds).1, d :: (dropKs k0 (kvs.map (·.1)) ds).2) := rfl
      rw [eD, e1.1, e1.2]
      unfold dropK at k1 k2 ⊢
      by_cases h : kv.1 = k0
      · rw [if_pos h, List.filter_cons_of_neg (by simpa using h)]
        exact ⟨k1, k2⟩
      · rw [if_neg h, List.filter_cons_of_pos (by simpa using h)]
        exact ⟨by rw [List.map_cons, k1], .cons (f := []) (g := []) r k2 fun _ z => nomatch z⟩
theorem dpopD_inv {b x : D} {r : D × D} (e : dpopD b x = some r) : ∃ ks ds k0 d, b = .box true (.dk ks) ds ∧ keyD x = some k0 ∧ D.nos ds = true ∧ dval ks ds k0 = some d ∧ r = (d, .box true (.dk (dropKs k0 ks ds).1) (dropKs k0 ks ds).2) := by
  unfold dpopD at e
  split at e
  · obtain ⟨k0, ek, e⟩ := Option.bind_eq_some_iff.mp e
    split at e
    · rename_i hn
      obtain ⟨d, ed, e⟩ := Option.map_eq_some_iff.mp e
      exact ⟨_, _, k0, d, rfl, ek, hn, ed, e.symm⟩
    · cases e
  · cases e
/-- d.pop(k) -/
theorem pe_dpopX (hK : K.exc = none) {X : Cx} {W : WX} {sc : Scope} (c : Cok X W N sc K k fn gl) {i : Nat} {p : List E} {kk : E} {o y : Expr} {ap pos : Pos} (hl : (ap.endLine == pos.line) = true) (hs : notStar y = true) (hp : chPt N sc i p o = true) (hk : chE N sc kk y = true) :
    PE X (.Call (.Attribute o "pop" ap) [y] [] pos) (tX K W (evx fn gl (.dpop i p kk))) := by
  have m : M1 X o "pop" ap y pos := ⟨base_of (chPr_nc hp), by rw [star_of hs]; rfl, hl, by rw [star_of hs]; rfl⟩
  refine PE.imp (pe_dpop1 (pe_pt (W := W) hK c hp) ((snd hK kk).pe (W := W) c y hk).1 m) fun σ H Q q => ?_
  obtain ⟨F, δ, g, s, sr, q⟩ := q
  have q : RestX K W σ F H g (dpopR fn gl i p kk δ) Q := q
  unfold dpopR at q
  split at q
  · exact q.elim
  · exact q.elim
  rename_i d0 hd e0
  have nd : d0 ≠ .dead := fun z => hd (by rw [z])
  obtain ⟨v0, ev0, r0⟩ := sr.rel i d0 e0 nd
  refine ⟨F, δ, g, d0, v0, s, sr, e0, nd, ev0, ?_⟩
  split at q
  · rename_i js ejs
    rw [ejs]
    intro v F1 H1 gr av
    split at q
    · exact q.elim
    rename_i b eb
    split at q
    rotate_left
    · exact q.elim
    rename_i hb
    have hb : ∃ ks ds, b = .box true (.dk ks) ds := by
      unfold isDk at hb
      split at hb
      · exact ⟨_, _, rfl⟩
      · cases hb
    obtain ⟨ks, ds, rfl⟩ := hb
    obtain ⟨a, oo, us, fx, rfl, ha, hk1, hrs, na, ia, sub, nf, _⟩ := SR.rewrite (b' := .non) s sr gr e0 ev0 eb av rfl
    cases hk1 with
    | dk kvs =>
      refine ⟨a, rfl, .inl ⟨kvs, .inl ha⟩, F1, δ, g, gr.fh, sr.grow gr, ?_⟩
      cases ek : ev fn gl kk δ with
      | stuck => rw [ek] at q; exact q.elim
      | exc cc fs =>
        rw [ek] at q
        exact fun C d F' H' e1 b2 e2 => q C d F' H' g e1 (.same (gr.trans b2)) (sr.grow (gr.trans b2)) e2
      | ok dk =>
        rw [ek] at q
        intro w F2 H2 fw gr2 rw_ _
        have g12 := gr.trans gr2
        have av2 := av.mono gr2.hh
        cases em : dpopD (.box true (.dk (kvs.map (·.1))) ds) dk with
        | none => dsimp only at q; rw [em] at q; exact q.elim
        | some rr =>
          dsimp only at q
          rw [em] at q
          obtain ⟨ks', ds', k0, d1, eb2, ekd, hn, edv, er⟩ := dpopD_inv em
          cases eb2
          obtain ⟨a2, oo2, us2, fx2, e2a, ha2, hk2, hrs2, na2, ia2, sub2, nf2, fin⟩ := SR.rewrite (b' := rr.2) s sr g12 e0 ev0 eb av2 rfl
          cases e2a
          have ha1 := gr2.hh _ _ ha
          rw [ha2] at ha1
          cases ha1
          have hn0 := (gr2.rs hrs).nos0 hn
          obtain ⟨q1, q2⟩ := drop_ok (k0 := k0) hn0
          obtain ⟨g', t, sr', off, at_i⟩ := fin (.dk (dropKs k0 (kvs.map (·.1)) ds).1) (.dK (dropK kvs k0)) _ (dropKs k0 (kvs.map (·.1)) ds).2 [] (by rw [er]) (by rw [← q1]; exact .dk _) q2 (fun z => nomatch z) fun p hp => nomatch hp
          rcases dval_ok hn0 (k := k0) with ⟨_, z⟩ | ⟨v1, d2, f2, h1, h2, h3, h4⟩
          · rw [edv] at z; cases z
          · rw [edv] at h2
            cases h2
            have f20 : f2 = [] := List.eq_nil_iff_forall_not_mem.mpr fun p hp => nomatch h4 p hp
            subst f20
            have hw := key_v rw_ ekd
            refine ⟨kvs, k0, v1, ha2, hw, h1, ?_⟩
            have q : RestX K W σ F H g (.ok rr.1 (δ.set i (setP d0 js rr.2))) Q := q
            rw [er] at q sr'
            refine q v1 F2 _ g' [] t sr' (h3.mono (Same.refl _) (fun b vs e => ?_) fun p hp => nomatch hp) fun p hp => nomatch hp
            exact updB_t ha2 (fun ys => hk2.not_tup) e
  · rename_i cc fs ejs
    rw [ejs]
    exact fun C d F' H' e1 b2 e2 => q C d F' H' g e1 (.same b2) (sr.grow b2) e2
  · exact q.elim
/-- d.clear() -/
theorem pe_dclrX (hK : K.exc = none) {X : Cx} {W : WX} {sc : Scope} (c : Cok X W N sc K k fn gl) {i : Nat} {p : List E} {o : Expr} {ap pos : Pos} (hl : (ap.endLine == pos.line) = true) (hp : chPt N sc i p o = true) :
    PE X (.Call (.Attribute o "clear" ap) [] [] pos) (tX K W (evx fn gl (.dclr i p))) := by
  refine PE.imp (pe_dclear (pe_pt (W := W) hK c hp) (base_of (chPr_nc hp)) hl) fun σ H Q q => ?_
  rw [c.kfr]
  obtain ⟨F, δ, g, s, sr, q⟩ := q
  have q : RestX K W σ F H g (dclrR fn gl i p δ) Q := q
  unfold dclrR at q
  split at q
  · exact q.elim
  · exact q.elim
  rename_i d0 hd e0
  have nd : d0 ≠ .dead := fun z => hd (by rw [z])
  obtain ⟨v0, ev0, r0⟩ := sr.rel i d0 e0 nd
  refine ⟨F, δ, g, d0, v0, s, sr, e0, nd, ev0, ?_⟩
  split at q
  · rename_i js ejs
    rw [ejs]
    intro v F1 H1 gr av
    split at q
    rotate_left
    · exact q.elim
    rename_i ks ds eb
    obtain ⟨a, oo, us, fx, rfl, ha, hk1, hrs, na, ia, sub, nf, fin⟩ := SR.rewrite (b' := .box true (.dk []) []) s sr gr e0 ev0 eb av rfl
    cases hk1 with
    | dk kvs =>
      obtain ⟨g', t, sr', off, at_i⟩ := fin (.dk []) (.dK []) [] [] [] rfl (.dk []) .nil (fun z => nomatch z) fun p hp => nomatch hp
      exact ⟨.inr (.inr (.inl ⟨rfl, .inl ⟨kvs, ha⟩⟩)), a, kvs, rfl, rfl, ha, q .non F1 _ g' [] t sr' .non fun p hp => nomatch hp⟩
  · rename_i cc fs ejs
    rw [ejs]
    exact fun C d F' H' e1 b2 e2 => q C d F' H' g e1 (.same b2) (sr.grow b2) e2
  · exact q.elim
theorem RestX.vlx {W : WX} {σ : L2.St} {F H : Hp} {g : Nat → List Addr} {δ : List D} {Q : VK} {r : Res D} {f : D → RX} {va : Bool} (sr : SR K F H σ δ g) (h : RestX K W σ F H g ((r.bind (vlD va)).rxd δ f) Q) :
    Rest K W σ F H r va fun v H1 => ∃ F1 d fp, Grow F H F1 H1 ∧ R K F1 H1 v d fp ∧ (∀ p ∈ fp, H p = none) ∧ RestX K W σ F H g (f d) Q := by
  cases r with
  | ok d =>
    cases e : vlD va d with
    | ok d' =>
      obtain ⟨e1, e2⟩ := vl_ok e
      subst e1
      have h : RestX K W σ F H g ((vlD va d').rxd δ f) Q := h
      rw [e] at h
      exact fun v F' H' fp gr r n => ⟨F', d', fp, gr, r, vl_fresh e2 r n, h⟩
    | exc c fs => unfold vlD at e; split at e <;> cases e
    | stuck =>
      have h : RestX K W σ F H g ((vlD va d).rxd δ f) Q := h
      rw [e] at h
      exact h.elim
  | exc c fs => exact fun C d F' H' e b q => h C d F' H' g e (.same b) (sr.grow b) q
  | stuck => exact h
theorem fldIx_at {f : Str} {fs : List (Str × V)} {j : Nat} (h : fldIx f (fs.map (·.1)) = some j) : ∃ v, (fs.map (·.2))[j]? = some v ∧ fs.lookup f = some v ∧ f ∈ fs.map (·.1) := idx_fld h
theorem lstAt_of {ds : List D} {j : Nat} (h : lstAt ds j = true) : ∃ xs, ds[j]? = some (.box true .lst xs) := by
  unfold lstAt at h
  split at h
  · rename_i e; exact ⟨_, e⟩
  · cases h
/-- x.f.append((e, x.f2.pop())) -/
theorem pe_mutpX (hK : K.exc = none) {X : Cx} {W : WX} {sc : Scope} (c : Cok X W N sc K k fn gl) {i : Nat} {f f2 : Str} {e : E} {y z : Str} {a : Expr} {py pz pg pg2 ap ap2 q2 pt pos : Pos} {kk : Nat} (hl : (ap.endLine == pos.line) = true) (hl2 : (ap2.endLine == q2.line) = true) (hy : chNm N sc i y = true) (hz : chNm N sc i z = true) (hs : notStar a = true) (ha : chE N sc e a = true) :
    PE X (.Call (.Attribute (.Attribute (.Name y py) f pg) "append" ap) [.Tuple [a, .Call (.Attribute (.Attribute (.Name z pz) f2 pg2) "pop" ap2) [] [] q2] kk pt] [] pos) (tX K W (evx fn gl (.mutp i f f2 e))) := by
  have P2 := pe_bm0 (X := X) (apos := ap2) (cpos := q2) PySem.F.plainAttrs_list PySem.F.slot_list_pop PySem.F.type_list_pop mt_pop (pe_fld (f := f2) (pos := pg2) (nm_pe (p := pz) c hz) (base_of rfl)) (base_of rfl) hl2
  have P3 := pe_tup (x1 := kk) (pos := pt) (pa_cons ((snd hK e).pe (W := W) c a ha).1 (pa_cons P2 pa_nil rfl) (star_of hs))
  refine PE.imp (pe_bm (X := X) PySem.F.plainAttrs_list PySem.F.slot_list_append PySem.F.type_list_append mt_append (pe_fld (f := f) (pos := pg) (nm_pe (p := py) c hy) (base_of rfl)) (pa_cons P3 pa_nil rfl) (base_of rfl) rfl hl rfl rfl) fun σ H Q q => ?_
  rw [c.kfr]
  obtain ⟨F, δ, g, s, sr, q⟩ := q
  have q : RestX K W σ F H g (mutpR fn gl i f f2 e δ) Q := q
  unfold mutpR at q
  split at q
  rotate_left
  · exact q.elim
  rename_i cc ns ds e0
  split at q
  rotate_left
  · exact q.elim
  rename_i j1 j2 ej1 ej2
  split at q
  · exact q.elim
  rename_i hcond
  have hne : j1 ≠ j2 := fun z => hcond (.inl z)
  have hla : lstAt ds j1 = true := by
    cases h : lstAt ds j1 with
    | true => rfl
    | false => exact absurd (.inr (by rw [h]; rfl)) hcond
  obtain ⟨xs, ex1⟩ := lstAt_of hla
  obtain ⟨v0, ev0, r0⟩ := sr.rel i _ e0 (fun z => nomatch z)
  obtain ⟨a0, C, dx, fs, f0, rfl, ha0, hca, hcl, hna, rfl, rs, sub0⟩ := r0.ob_inv s
  obtain ⟨v1, ew1, el1, em1⟩ := fldIx_at ej1
  obtain ⟨v2, ew2, el2, em2⟩ := fldIx_at ej2
  have r1 : ∃ a1 vs1, v1 = .ref a1 ∧ H a1 = some (.lst vs1) := by
    obtain ⟨d, gg, e1, r1, _⟩ := rs.get' ew1
    rw [ex1] at e1
    cases e1
    obtain ⟨a1, vs1, _, h1, _, h2, _⟩ := r1.own_lst
    exact ⟨a1, vs1, h1, h2⟩
  obtain ⟨a1, vs1, rfl, hl1⟩ := r1
  refine ⟨.ref a0, ev0, a0, C, dx, fs, .ref a1, rfl, ha0, hcl, hna f em1, el1, .inl ⟨rfl, vs1, SqL.of hl1⟩, ?_⟩
  refine ⟨F, δ, g, s, sr, (RestX.vlx sr q).mono fun v H1 q => ?_⟩
  obtain ⟨F1, d, fp, gr, rv, nfp, q⟩ := q
  unfold mutpE at q
  split at q
  rotate_left
  · exact q.elim
  rename_i xs' ys ex1' ex2
  rw [ex1] at ex1'
  cases ex1'
  split at q
  rotate_left
  · exact q.elim
  rename_i dy edy
  split at q
  rotate_left
  · exact q.elim
  rename_i hz1
  have ha01 := gr.hh _ _ ha0
  have at2 : AtV H1 (.ref a0) [j2] v2 := .cons ha01 ew2 .nil
  have at1 : AtV H1 (.ref a0) [j1] (.ref a1) := .cons ha01 ew1 .nil
  have eat2 : atP (.box true (.ob cc (fs.map (fun (z : Str × V) => z.1))) ds) [j2] = some (.box true .lst ys) := by
    show (ds[j2]?).bind _ = _
    rw [ex2]; rfl
  obtain ⟨a2, oo2, vs2, fx2, rfl, hb2, hk2, hs2, na2, ia2, sub2, nf2, fin2⟩ := SR.rewrite (b' := .box true .lst ys.dropLast) s sr gr e0 ev0 eat2 at2 rfl
  cases hk2
  have hne2 : ys ≠ [] := fun z => by rw [z] at edy; cases edy
  have hly : 0 < ys.length := List.length_pos_iff.mpr hne2
  have edy2 : ys[ys.length - 1]? = some dy := by rw [← List.getLast?_eq_getElem?]; exact edy
  obtain ⟨vy, fr2, fy, evy, ry, rs2, ny, sr2', sy2⟩ := Rs.takeOut hs2 edy2
  have dl : ∀ {α : Type} (zs : List α), zs.dropLast = zs.eraseIdx (zs.length - 1) := fun zs => List.eraseIdx_length_sub_one.symm
  have rs2' : Rs K F1 H1 vs2.dropLast ys.dropLast fr2 := by
    rw [dl vs2, dl ys, hs2.length]
    exact rs2
  obtain ⟨g2, t2, s2, off2, at_2⟩ := fin2 .lst (.lst vs2.dropLast) _ _ fr2 rfl (.lst _) rs2' (fun z => na2 (sr2' a2 z)) fun p hp => .inl (sr2' p hp)
  refine ⟨.ref a0, ev0, a0, C, dx, fs, .ref a2, rfl, ha01, hcl, hna f2 em2, el2, .inl ⟨rfl, vs2, SqL.of hb2⟩, a2, vs2, vy, rfl, rfl, hb2, by rw [hs2.length]; exact evy, ?_⟩
  refine ⟨by show 2 ≤ sizeLine; decide, fun p np => ?_⟩
  have h02 : a0 ≠ a2 := fun z => by rw [z, hb2] at ha01; cases ha01
  have sm3 : Same (upd H1 a2 (.lst vs2.dropLast)) (upd (upd H1 a2 (.lst vs2.dropLast)) p (.tup [v, vy])) := same_new np
  have gr3 : Grow F1 (upd H1 a2 (.lst vs2.dropLast)) F1 (upd (upd H1 a2 (.lst vs2.dropLast)) p (.tup [v, vy])) := ⟨Same.refl F1, t2.fh.trans sm3, sm3, fun _ _ => rfl⟩
  have ha02 : upd H1 a2 (.lst vs2.dropLast) a0 = some (.ins C dx fs) := by rw [upd_ne h02]; exact ha01
  have at1' : AtV (upd (upd H1 a2 (.lst vs2.dropLast)) p (.tup [v, vy])) (.ref a0) [j1] (.ref a1) := .cons (sm3 _ _ ha02) ew1 .nil
  have hli : i < δ.length := (List.getElem?_eq_some_iff.mp e0).1
  have eset : setP (.box true (.ob cc (fs.map (fun (z : Str × V) => z.1))) ds) [j2] (.box true .lst ys.dropLast) = .box true (.ob cc (fs.map (fun (z : Str × V) => z.1))) (ds.set j2 (.box true .lst ys.dropLast)) := by
    show (match ds[j2]? with | some d' => putD (.box true (.ob cc (fs.map (fun (z : Str × V) => z.1))) ds) j2 (setP d' [] (.box true .lst ys.dropLast)) | none => .box true (.ob cc (fs.map (fun (z : Str × V) => z.1))) ds) = _
    rw [ex2]; rfl
  rw [eset] at s2
  have ei2 : (δ.set i (.box true (.ob cc (fs.map (fun (z : Str × V) => z.1))) (ds.set j2 (.box true .lst ys.dropLast))))[i]? = some (.box true (.ob cc (fs.map (fun (z : Str × V) => z.1))) (ds.set j2 (.box true .lst ys.dropLast))) := List.getElem?_set_self hli
  have eat1 : atP (.box true (.ob cc (fs.map (fun (z : Str × V) => z.1))) (ds.set j2 (.box true .lst ys.dropLast))) [j1] = some (.box true .lst xs) := by
    show ((ds.set j2 (.box true .lst ys.dropLast))[j1]?).bind _ = _
    rw [List.getElem?_set_ne (fun z => hne z.symm), ex1]; rfl
  obtain ⟨b1, oo1, vs1', fx1, e1b, hb1, hk1, hs1, na1, ia1, sub1, nf1, fin1⟩ := SR.rewrite2 (b' := .box true .lst (xs ++ [PX.D.tup [d, dy]])) s2 gr3 ei2 ev0 eat1 at1' rfl
  cases e1b
  cases hk1
  have ndel : ∀ w0, w0 ∈ g2 i → w0 ∈ g i := fun w0 hq => by
    rcases at_2 w0 hq with ⟨z, _⟩ | z
    · exact z
    · rcases List.mem_cons.mp z with rfl | z
      · exact ia2
      · exact sub2 w0 (sr2' w0 z)
  have g2g : ∀ j w0, w0 ∈ g2 j → w0 ∈ g j := fun j w0 hq => by
    by_cases ej : j = i
    · rw [ej] at hq ⊢; exact ndel w0 hq
    · rw [off2 j ej] at hq; exact hq
  have fpn : ∀ w0 ∈ fp, ∀ j, w0 ∉ g2 j := fun w0 hq j z => sr.fresh' (nfp w0 hq) j (g2g j w0 z)
  have fyn : ∀ w0 ∈ fy, ∀ j, w0 ∉ g2 j := fun w0 hq j z => by
    by_cases ej : j = i
    · rw [ej] at z
      rcases at_2 w0 z with ⟨_, w⟩ | w
      · exact w (List.mem_cons_of_mem _ (sy2 w0 hq))
      · rcases List.mem_cons.mp w with rfl | w
        · exact na2 (sy2 _ hq)
        · exact ny w0 hq w
    · rw [off2 j ej] at z
      exact sr.dis i j (fun z => ej z.symm) w0 (sub2 w0 (sy2 w0 hq)) z
  have rv3 : R K F1 (upd (upd H1 a2 (.lst vs2.dropLast)) p (.tup [v, vy])) v d fp := gr3.r (rv.updL hb2 fun z => by
    have := nfp a2 z
    obtain ⟨_, kd, o, ws, e, _⟩ := sr.own i a2 ia2
    rw [this] at e; cases e)
  have ry3 : R K F1 (upd (upd H1 a2 (.lst vs2.dropLast)) p (.tup [v, vy])) vy dy fy := gr3.r (ry.updL hb2 fun z => na2 (sy2 a2 z))
  have rt : R K F1 (upd (upd H1 a2 (.lst vs2.dropLast)) p (.tup [v, vy])) (.ref p) (.tup [d, dy]) (fp ++ (fy ++ [])) := .tup upd_same (.cons rv3 (.cons ry3 .nil fun _ _ z => nomatch z) fun w0 h1 h2 => by
    rw [List.append_nil] at h2
    exact sr.fresh' (nfp w0 h1) i (sub2 w0 (sy2 w0 h2)))
  have rnew := Rs.app hs1 (Rs.one rt) fun w0 h1 h2 => by
    rcases List.mem_append.mp h2 with z | z
    · exact fpn w0 z i (sub1 w0 h1)
    · rw [List.append_nil] at z
      exact fyn w0 z i (sub1 w0 h1)
  obtain ⟨g4, s4, off4, at4⟩ := fin1 .lst (.lst (vs1' ++ [.ref p])) _ _ _ rfl (.lst _) rnew (fun z => by
    rcases List.mem_append.mp z with z | z
    · exact na1 z
    · rcases List.mem_append.mp z with z | z
      · exact fpn _ z i ia1
      · rw [List.append_nil] at z
        exact fyn _ z i ia1) fun w0 hq => by
    rcases List.mem_append.mp hq with z | z
    · exact .inl z
    · rcases List.mem_append.mp z with z | z
      · exact .inr (fpn w0 z)
      · rw [List.append_nil] at z
        exact .inr (fyn w0 z)
  refine ⟨_, vs1', .ref p, rfl, rfl, hb1, by rw [hs1.length]; exact hz1, ?_⟩
  have eset2 : setP (.box true (.ob cc (fs.map (fun (z : Str × V) => z.1))) (ds.set j2 (.box true .lst ys.dropLast))) [j1] (.box true .lst (xs ++ [PX.D.tup [d, dy]])) = .box true (.ob cc (fs.map (fun (z : Str × V) => z.1))) ((ds.set j2 (.box true .lst ys.dropLast)).set j1 (.box true .lst (xs ++ [PX.D.tup [d, dy]]))) := by
    show (match (ds.set j2 (.box true .lst ys.dropLast))[j1]? with | some d' => putD (.box true (.ob cc (fs.map (fun (z : Str × V) => z.1))) (ds.set j2 (.box true .lst ys.dropLast))) j1 (setP d' [] (.box true .lst (xs ++ [PX.D.tup [d, dy]]))) | none => .box true (.ob cc (fs.map (fun (z : Str × V) => z.1))) (ds.set j2 (.box true .lst ys.dropLast))) = _
    rw [List.getElem?_set_ne (fun z => hne z.symm), ex1]; rfl
  rw [eset2, List.set_set] at s4
  have hb1g := ndel _ ia1
  refine q .non F1 _ g4 [] ⟨gr.ff, fun w0 o e => ?_, fun w0 h o e => ?_, fun w0 _ n => gr.only w0 n, fun j w0 hq => ?_⟩ s4 .non fun _ z => nomatch z
  · rw [upd_ne (fun z => by subst z; rw [nf1] at e; cases e)]
    exact gr3.fh w0 o e
  · rw [upd_ne (fun z => by subst z; exact h i hb1g)]
    exact sm3 _ _ (t2.hh w0 h o e)
  · by_cases ej : j = i
    · rw [ej] at hq
      rcases at4 w0 hq with z | z
      · exact .inl ⟨i, ndel w0 z⟩
      · rcases List.mem_cons.mp z with rfl | z
        · exact .inl ⟨i, hb1g⟩
        · rcases List.mem_append.mp z with z | z
          · exact .inl ⟨i, ndel w0 (sub1 w0 z)⟩
          · rcases List.mem_append.mp z with z | z
            · exact .inr (nfp w0 z)
            · rw [List.append_nil] at z
              exact .inl ⟨i, sub2 w0 (sy2 w0 z)⟩
    · rw [off4 j ej] at hq
      exact .inl ⟨j, g2g j w0 hq⟩
/-! ### lists of arguments, calls and displays with changes within -/
def RestXA (K : Kx) (W : WX) (σ : L2.St) (F H : Hp) (g : Nat → List Addr) (r : RX) (Q : List V → Hp → Prop) : Prop :=
  match r with
  | .ok d δ' => ∀ vs F' H' g' fp, Tr F H g F' H' g' → SR K F' H' σ δ' g' → Rs K F' H' vs (unT d) fp → (∀ p ∈ fp, (∀ i, p ∉ g' i) ∧ ((∃ j, p ∈ g j) ∨ H p = none)) → Q vs H'
  | .exc c fs δ' => ∀ C d F' H' g', K.ca c = some C → Tr F H g F' H' g' → SR K F' H' σ δ' g' → ExD fs d → W (.ref C) d σ H'
  | .stuck => False
def tXA (K : Kx) (W : WX) (m : List D → RX) : TA := fun σ H Q => ∃ F δ g, Same F H ∧ SR K F H σ δ g ∧ RestXA K W σ F H g (m δ) Q
section
variable {W : WX} {σ : L2.St} {F H F1 H1 F2 H2 : Hp} {δ δ1 : List D} {g g1 g2 : Nat → List Addr}
/-- what no slot owns stays -/
theorem Tr.keepR (t : Tr F1 H1 g1 F2 H2 g2) (s : SR K F1 H1 σ δ1 g1) {v : V} {d : D} {fp : List Addr} (r : R K F1 H1 v d fp) (n : ∀ p ∈ fp, ∀ i, p ∉ g1 i) : R K F2 H2 v d fp :=
  r.mono t.ff (fun a vs h => t.hh a (s.not_tup h) _ h) fun p hp => by
    obtain ⟨en, k, o, vs, e, _⟩ := r.there p hp
    exact ⟨(t.hh p (n p hp) o e).trans e.symm, (t.only p (n p hp) (by rw [e]; simp)).trans en⟩
theorem RestXA.bind {Q : VK} {r : RX} {f : D → List D → RX} (h : RestX K W σ F H g (r.bind f) Q) :
    RestXA K W σ F H g r fun vs H1 => ∃ F1 g1 d fp δ1, Tr F H g F1 H1 g1 ∧ SR K F1 H1 σ δ1 g1 ∧ Rs K F1 H1 vs (unT d) fp ∧ (∀ p ∈ fp, (∀ i, p ∉ g1 i) ∧ ((∃ j, p ∈ g j) ∨ H p = none)) ∧ RestX K W σ F H g (f d δ1) Q := by
  cases r with
  | ok d δ' => exact fun vs F' H' g' fp t sr r n => ⟨F', g', d, fp, δ', t, sr, r, n, h⟩
  | exc c fs δ' => exact h
  | stuck => exact h
theorem RestXA.mono {r : RX} {Q Q' : List V → Hp → Prop} (h : RestXA K W σ F H g r Q) (k : ∀ v H, Q v H → Q' v H) : RestXA K W σ F H g r Q' := by
  cases r with
  | ok d δ' => exact fun v F' H' g' fp t sr r n => k _ _ (h v F' H' g' fp t sr r n)
  | exc c fs δ' => exact h
  | stuck => exact h
/-- behind a change: a pure evaluation -/
theorem RestX.rest {Q : VK} {r : Res D} {f : D → RX} {va : Bool} (t : Tr F H g F1 H1 g1) (sr : SR K F1 H1 σ δ1 g1) (h : RestX K W σ F H g (r.rxd δ1 f) Q) :
    Rest K W σ F1 H1 r va fun v H2 => ∃ F2 d fp, Grow F1 H1 F2 H2 ∧ R K F2 H2 v d fp ∧ (va = false → ∀ p ∈ fp, H1 p = none) ∧ RestX K W σ F H g (f d) Q := by
  cases r with
  | ok d => exact fun v F' H' fp b q n => ⟨F', d, fp, b, q, n, h⟩
  | exc c fs => exact fun C d F' H' e b q => h C d F' H' g1 e (t.trans (.same b)) (sr.grow b) q
  | stuck => exact h
theorem RestXA.cons {r : RX} {v : V} {x : D} {fp : List Addr} {Q : List V → Hp → Prop} (h : RestXA K W σ F H g (r.bind fun ds δ2 => .ok (.tup (x :: unT ds)) δ2) Q) (t : Tr F H g F1 H1 g1) (sr : SR K F1 H1 σ δ1 g1) (rx : R K F1 H1 v x fp) (n : ∀ p ∈ fp, (∀ i, p ∉ g1 i) ∧ ((∃ j, p ∈ g j) ∨ H p = none)) :
    RestXA K W σ F1 H1 g1 r fun vs H2 => Q (v :: vs) H2 := by
  cases r with
  | ok d δ' =>
    intro vs F' H' g' fp2 t2 sr2 rs n2
    refine h (v :: vs) F' H' g' (fp ++ fp2) (t.trans t2) sr2 (.cons (t2.keepR sr rx fun p hp => (n p hp).1) rs fun p hp hq => ?_) fun p hp => ?_
    · rcases (n2 p hq).2 with ⟨j, z⟩ | z
      · exact (n p hp).1 j z
      · obtain ⟨_, k, o, vs, e, _⟩ := rx.there p hp
        rw [z] at e; cases e
    · rcases List.mem_append.mp hp with z | z
      · refine ⟨fun i hi => ?_, (n p z).2⟩
        rcases t2.new i p hi with ⟨j, w⟩ | w
        · exact (n p z).1 j w
        · obtain ⟨_, k, o, vs, e, _⟩ := rx.there p z
          rw [w] at e; cases e
      · exact ⟨(n2 p z).1, t.newer (n2 p z).2⟩
  | exc c fs δ' => exact fun C d F' H' g' e t2 s2 q => h C d F' H' g' e (t.trans t2) s2 q
  | stuck => exact h
theorem Rs.rv {vs : List V} {ds : List D} {fp : List Addr} : Rs K F H vs ds fp → RV K F H vs ds
  | .nil => .nil
  | .cons r rs _ => .cons r rs.rv
end
theorem pe_cl (hK : K.exc = none) {X : Cx} {W : WX} {sc : Scope} (c : Cok X W N sc K k fn gl) {f : Str} {a : PX.X} {x : Expr} {xs : List Expr} {p0 pos : Pos} (hb : bare f = true) (hg : glB sc f = true) (st : starEach (x :: xs) X.env = (false, eval x X.env) :: starEach xs X.env) (bk : (backTo pos (starEach xs X.env)).any (·.1) = false) (ha : PA X (x :: xs) (tXA K W (evx fn gl a))) :
    PE X (.Call (.Name f p0) (x :: xs) [] pos) (tX K W (evx fn gl (.cl f a))) := by
  cases ef : fn f with
  | none =>
    refine ⟨fun pins s σ H Q I q => ?_⟩
    obtain ⟨F, δ, g, s, sr, q⟩ := q
    have q : RestX K W σ F H g (match fn f with | none => .stuck | some F => (evx fn gl a δ).bind fun ds δ1 => (lend F (unT ds)).rxd δ1 fun d => .ok d δ1) Q := q
    rw [ef] at q
    exact q.elim
  | some Fn =>
    obtain ⟨ad, fd, ps, A⟩ := c.g.fns hK f Fn hb ef
    have ok := A.ok
    have kp := A.kp
    have bd := A.bd
    rw [← c.kfr] at ok kp bd
    refine PE.imp (pe_callS ok (c.rm hK) (c.glo hg).1 A.at_ kp bd (fun σ => L2N.passAt c.tk σ) ha (c.glo hg).2.1 st bk) fun σ H Q q => ?_
    obtain ⟨F, δ, g, s, sr, q⟩ := q
    have q : RestX K W σ F H g (match fn f with | none => .stuck | some F => (evx fn gl a δ).bind fun ds δ1 => (lend F (unT ds)).rxd δ1 fun d => .ok d δ1) Q := q
    rw [ef] at q
    refine ⟨F, δ, g, s, sr, (RestXA.bind q).mono fun vs H1 q => ?_⟩
    obtain ⟨F1, g1, d, fp, δ1, t, sr1, rs, n, q⟩ := q
    refine rest_call (view := false) t.fh rs.rv ((RestX.rest (va := false) t sr1 q).mono fun v H2 q => ?_)
    obtain ⟨F2, d2, fp2, gr, r2, n2, q⟩ := q
    exact q v F2 H2 g1 fp2 (t.trans (.same gr)) (sr1.grow gr) r2 fun p hp => ⟨sr1.fresh' (n2 rfl p hp), t.newer (.inr (n2 rfl p hp))⟩
theorem ixtD_ne {x y : D} {c : Str} {fs : List D} (e : ixtD x y = .exc c fs) : False := by
  unfold ixtD at e
  split at e
  · rename_i xs i
    cases h : L2.atI xs i with
    | none => rw [h] at e; cases e
    | some d => rw [h] at e; cases e
  · cases e
theorem ixtX_ok {F H : Hp} {v w : V} {x y d : D} {f f2 : List Addr} {Q : VK} (r1 : R K F H v x f) (r2 : R K F H w y f2) (e : ixtD x y = .ok d) (k : ∀ u g, R K F H u d g → (∀ p ∈ g, p ∈ f) → Q u H) : rIx2 K.fr v w H Q := by
  unfold ixtD at e
  split at e
  · rename_i xs i
    obtain ⟨a, vs, rfl, ht, hs⟩ := r1.tup_inv
    have e2 := r2.int_inv
    subst e2
    cases h : L2.atI xs i with
    | none => rw [h] at e; cases e
    | some d' =>
      rw [h] at e
      cases e
      obtain ⟨u, g, e1, r, kk⟩ := hs.atI h
      exact .inl (.inr (.inl ⟨a, vs, i, u, rfl, rfl, ht, e1, k u g r kk⟩))
  · cases e
theorem pe_ixtX (hK : K.exc = none) {X : Cx} {W : WX} {sc : Scope} (c : Cok X W N sc K k fn gl) {x : PX.X} {e : E} {y z : Expr} {pos : Pos} (hs : notSlice z = true) (hx : PE X y (tX K W (evx fn gl x))) (he : chE N sc e z = true) :
    PE X (.Subscript y z pos) (tX K W (evx fn gl (.ixt x e))) := by
  have hr := ix_all (X := X) (by have := c.hu; omega)
  rw [c.kfr] at hr
  refine PE.imp (pe_ix hr hx ((snd hK e).pe (W := W) c z he).1 (slice_of hs)) fun σ H Q q => ?_
  obtain ⟨F, δ, g, s, sr, q⟩ := q
  have q : RestX K W σ F H g ((evx fn gl x δ).bind fun d δ1 => (ev fn gl e δ1).rxd δ1 fun i => (ixtD d i).rxd δ1 fun y => .ok y δ1) Q := q
  refine ⟨F, δ, g, s, sr, (RestX.bind q).mono fun v H1 q => ?_⟩
  obtain ⟨F1, g1, d, fp, δ1, t, sr1, r, n, q⟩ := q
  refine ⟨F1, δ1, g1, t.fh, sr1, (RestX.rest (va := e.view) t sr1 q).mono fun w H2 q => ?_⟩
  obtain ⟨F2, di, fi, gr, ri, _, q⟩ := q
  have hq : (∃ y, ixtD d di = .ok y) ∧ ∀ y, ixtD d di = .ok y → RestX K W σ F H g (.ok y δ1) Q := by
    cases e : ixtD d di with
    | ok y => rw [e] at q; exact ⟨⟨y, rfl⟩, fun z ez => by cases ez; exact q⟩
    | exc cc fs => exact (ixtD_ne e).elim
    | stuck => rw [e] at q; exact q.elim
  obtain ⟨⟨y, ey⟩, hq⟩ := hq
  exact ixtX_ok (gr.r r) ri ey fun u f2 r1 sub => hq y ey u F2 H2 g1 f2 (t.trans (.same gr)) (sr1.grow gr) r1 fun p hp => n p (sub p hp)
theorem pe_tpX {X : Cx} {W : WX} {a : PX.X} {xs : List Expr} {kk : Nat} {pos : Pos} (ha : PA X xs (tXA K W (evx fn gl a))) : PE X (.Tuple xs kk pos) (tX K W (evx fn gl (.tp a))) := by
  refine PE.imp (pe_tup ha) fun σ H Q q => ?_
  obtain ⟨F, δ, g, s, sr, q⟩ := q
  have q : RestX K W σ F H g ((evx fn gl a δ).bind fun ds δ1 => if (unT ds).length ≤ sizeLine then .ok (.tup (unT ds)) δ1 else .stuck) Q := q
  refine ⟨F, δ, g, s, sr, (RestXA.bind q).mono fun vs H1 q => ?_⟩
  obtain ⟨F1, g1, d, fp, δ1, t, sr1, rs, n, q⟩ := q
  split at q
  · rename_i hl
    refine ⟨by rw [rs.length]; exact hl, fun p np => ?_⟩
    have gr := Grow.new (o := .tup vs) t.fh np
    exact q (.ref p) F1 _ g1 fp (t.trans (.same gr)) (sr1.grow gr) (.tup upd_same (gr.rs rs)) n
  · exact q.elim
theorem pe_evX (hK : K.exc = none) {X : Cx} {W : WX} {sc : Scope} (c : Cok X W N sc K k fn gl) {e : E} {x : Expr} (h : chE N sc e x = true) : PE X x (tX K W (evx fn gl (.ev e))) := by
  refine PE.imp ((snd hK e).pe (W := W) c x h).1 fun σ H Q q => ?_
  obtain ⟨F, δ, g, s, sr, q⟩ := q
  have q : RestX K W σ F H g (((ev fn gl e δ).bind (vlD e.view)).rxd δ fun d => .ok d δ) Q := q
  refine ⟨F, δ, g, s, sr, (RestX.vlx sr q).mono fun v H1 q => ?_⟩
  obtain ⟨F1, d, fp, gr, r, n, q⟩ := q
  exact q v F1 H1 g fp (.same gr) (sr.grow gr) r fun p hp => ⟨sr.fresh' (n p hp), .inr (n p hp)⟩
theorem chXs_f {sc : Scope} {env : Env} {pos : Pos} : ∀ {a : PX.X} {xs : List Expr}, chXs N sc a xs = true → (backTo pos (starEach xs env)).any (·.1) = false ∧ ∀ x ys, xs = x :: ys → notStar x = true ∧ ∃ b, chXs N sc b ys = true
  | a, [], _ => ⟨rfl, fun _ _ z => nomatch z⟩
  | a, x :: xs, h => by
    cases a with
    | acons y r =>
      obtain ⟨h1, h2⟩ := and_t h
      obtain ⟨_, h3⟩ := and_t h2
      obtain ⟨k1, _⟩ := chXs_f (env := env) (pos := pos) h3
      rw [star_of h1]
      refine ⟨?_, fun z zs e => by cases e; exact ⟨h1, r, h3⟩⟩
      show (false || (backTo pos (starEach xs env)).any (·.1)) = false
      rw [k1]; rfl
    | _ => cases h
mutual
theorem sndX (hK : K.exc = none) {X : Cx} {W : WX} {sc : Scope} (c : Cok X W N sc K k fn gl) : ∀ (x : PX.X) (e : Expr), chX N sc x e = true → PE X e (tX K W (evx fn gl x))
  | .mut i p m args, e, h => by
    unfold chX at h
    split at h <;> first | (rename_i z; cases z; done) | skip
    all_goals first | (cases h; done) | skip
    rename_i z
    cases z
    obtain ⟨h1, h2'⟩ := and_t h
    obtain ⟨h2, h3'⟩ := and_t h2'
    obtain ⟨h3, h4'⟩ := and_t h3'
    obtain ⟨h4, h5⟩ := and_t h4'
    have e1 := of_decide_eq_true h1
    subst e1
    exact pe_mut hK c (of_decide_eq_true h3) (chPr_nc h4) h2 h4 h5
  | .mutm i p j, e, h => by
    unfold chX at h
    split at h <;> first | (rename_i z; cases z; done) | skip
    all_goals first | (cases h; done) | skip
    rename_i z
    cases z
    obtain ⟨h1, h2'⟩ := and_t h
    obtain ⟨h2, h3'⟩ := and_t h2'
    obtain ⟨h3, h4'⟩ := and_t h3'
    obtain ⟨h4, h5⟩ := and_t h4'
    have e1 := of_decide_eq_true h1
    subst e1
    exact pe_mutm hK c (chPr_nc h3) h2 h3 (of_decide_eq_true h4) h5
  | .mutt o m args, e, h => by
    unfold chX at h
    split at h <;> first | (rename_i z; cases z; done) | skip
    all_goals first | (cases h; done) | skip
    rename_i z
    cases z
    obtain ⟨h1, h2'⟩ := and_t h
    obtain ⟨h2, h3'⟩ := and_t h2'
    obtain ⟨h3, h4'⟩ := and_t h3'
    obtain ⟨h4, h5'⟩ := and_t h4'
    obtain ⟨h5, h6⟩ := and_t h5'
    have e1 := of_decide_eq_true h1
    subst e1
    exact pe_mutt hK c (of_decide_eq_true h3) h4 h2 h5 h6
  | .xc m as, e, h => by
    unfold chX at h
    split at h <;> first | (rename_i z; cases z; done) | skip
    all_goals first | (cases h; done) | skip
    rename_i z
    cases z
    obtain ⟨h1, h2'⟩ := and_t h
    obtain ⟨h2, h3⟩ := and_t h2'
    have e1 := of_decide_eq_true h1
    subst e1
    exact pe_xcF hK c h2 h3
  | .xcm cc m i p r, e, h => by
    unfold chX at h
    split at h <;> first | (rename_i z; cases z; done) | skip
    all_goals first | (cases h; done) | skip
    rename_i z
    cases z
    obtain ⟨h1, h2'⟩ := and_t h
    obtain ⟨h2, h3'⟩ := and_t h2'
    obtain ⟨h3, h4'⟩ := and_t h3'
    obtain ⟨h3, h3b⟩ := and_t h3
    obtain ⟨h4, h5'⟩ := and_t h4'
    obtain ⟨h5, h6'⟩ := and_t h5'
    obtain ⟨h6, h7⟩ := and_t h6'
    have e1 := of_decide_eq_true h3
    subst e1
    exact pe_xcM hK c (by simpa using h1) h2 (by simpa using h3b) h4 (of_decide_eq_true h5) h6 h7
  | .mutx i x, e, h => by
    unfold chX at h
    split at h <;> first | (rename_i z; cases z; done) | skip
    all_goals first | (cases h; done) | skip
    rename_i z
    cases z
    obtain ⟨h1, h2'⟩ := and_t h
    obtain ⟨h2, h3'⟩ := and_t h2'
    obtain ⟨h3, h4'⟩ := and_t h3'
    obtain ⟨h4, h5⟩ := and_t h4'
    have e1 := of_decide_eq_true h1
    subst e1
    exact pe_mutx hK c h2 h3 h4 (sndX hK c x _ h5)
  | .mutp i f f2 e, e', h => by
    unfold chX at h
    split at h <;> first | (rename_i z; cases z; done) | skip
    all_goals first | (cases h; done) | skip
    rename_i z
    cases z
    obtain ⟨h1, h2'⟩ := and_t h
    obtain ⟨h2, h3'⟩ := and_t h2'
    obtain ⟨h2, h2b⟩ := and_t h2
    obtain ⟨h3, h4'⟩ := and_t h3'
    obtain ⟨h3, h3b⟩ := and_t h3
    obtain ⟨h4, h5⟩ := and_t h4'
    obtain ⟨h1a, h1'⟩ := and_t h1
    obtain ⟨h1b, h1'⟩ := and_t h1'
    obtain ⟨h1c, h1d⟩ := and_t h1'
    have e1 := of_decide_eq_true h1a
    have e2 := of_decide_eq_true h1b
    have e3 := of_decide_eq_true h1c
    have e4 := of_decide_eq_true h1d
    subst e1 e2 e3 e4
    exact pe_mutpX hK c h2 h2b h3 h3b h4 h5
  | .dpop i p kk, e, h => by
    unfold chX at h
    split at h <;> first | (rename_i z; cases z; done) | skip
    all_goals first | (cases h; done) | skip
    rename_i z
    cases z
    obtain ⟨h1, h2'⟩ := and_t h
    obtain ⟨h2, h3'⟩ := and_t h2'
    obtain ⟨h3, h4'⟩ := and_t h3'
    obtain ⟨h4, h5⟩ := and_t h4'
    have e1 := of_decide_eq_true h1
    subst e1
    exact pe_dpopX hK c h2 h3 h4 h5
  | .dclr i p, e, h => by
    unfold chX at h
    split at h <;> first | (rename_i z; cases z; done) | skip
    all_goals first | (cases h; done) | skip
    rename_i z
    cases z
    obtain ⟨h1, h2'⟩ := and_t h
    obtain ⟨h2, h3⟩ := and_t h2'
    have e1 := of_decide_eq_true h1
    subst e1
    exact pe_dclrX hK c h2 h3
  | .ev e, x, h => by
    unfold chX at h
    exact pe_evX hK c h
  | .cl f a, e, h => by
    unfold chX at h
    split at h <;> first | (rename_i z; cases z; done) | skip
    all_goals first | (cases h; done) | skip
    rename_i z
    cases z
    obtain ⟨h1, h2'⟩ := and_t h
    obtain ⟨h0, h1b⟩ := and_t h1
    obtain ⟨h2, h3⟩ := and_t h2'
    have e1 := of_decide_eq_true h1b
    clear h1 h h2'
    subst e1
    obtain ⟨k1, k2⟩ := chXs_f (env := X.env) (pos := ⟨0, 0, 0, 0⟩) h3
    obtain ⟨hs, b, hb⟩ := k2 _ _ rfl
    exact pe_cl hK c h0 h2 (star_of hs) (chXs_f hb).1 (sndXA hK c a _ h3)
  | .ixt x e, e', h => by
    unfold chX at h
    split at h <;> first | (rename_i z; cases z; done) | skip
    all_goals first | (cases h; done) | skip
    rename_i z
    cases z
    obtain ⟨h1, h2'⟩ := and_t h
    obtain ⟨h2, h3⟩ := and_t h2'
    exact pe_ixtX hK c h1 (sndX hK c x _ h2) h3
  | .tp a, e, h => by
    unfold chX at h
    split at h <;> first | (rename_i z; cases z; done) | skip
    all_goals first | (cases h; done) | skip
    rename_i z
    cases z
    exact pe_tpX (sndXA hK c a _ h)
  | .anil, e, h => by
    unfold chX at h
    cases h
  | .acons _ _, e, h => by
    unfold chX at h
    cases h
theorem sndXA (hK : K.exc = none) {X : Cx} {W : WX} {sc : Scope} (c : Cok X W N sc K k fn gl) : ∀ (x : PX.X) (xs : List Expr), chXs N sc x xs = true → PA X xs (tXA K W (evx fn gl x))
  | .anil, xs, h => by
    cases xs with
    | cons _ _ => cases h
    | nil =>
      refine PA.imp pa_nil fun σ H Q q => ?_
      obtain ⟨F, δ, g, s, sr, q⟩ := q
      exact q [] F H g [] (.same (Grow.refl s)) sr .nil fun _ z => nomatch z
  | .acons x r, xs, h => by
    cases xs with
    | nil => cases h
    | cons y ys =>
      obtain ⟨h1, h2⟩ := and_t h
      obtain ⟨h2, h3⟩ := and_t h2
      refine PA.imp (pa_cons (sndX hK c x y h2) (sndXA hK c r ys h3) (star_of h1)) fun σ H Q q => ?_
      obtain ⟨F, δ, g, s, sr, q⟩ := q
      have q : RestXA K W σ F H g ((evx fn gl x δ).bind fun d δ1 => (evx fn gl r δ1).bind fun ds δ2 => .ok (.tup (d :: unT ds)) δ2) Q := q
      refine ⟨F, δ, g, s, sr, ?_⟩
      cases ex : evx fn gl x δ with
      | stuck => rw [ex] at q; exact q.elim
      | exc cc fs δ' => rw [ex] at q; exact q
      | ok d δ' =>
        rw [ex] at q
        intro v F1 H1 g1 fp t sr1 rx n
        exact ⟨F1, δ', g1, t.fh, sr1, RestXA.cons q t sr1 rx n⟩
  | .mut _ _ _ _, _, h => nomatch h
  | .mutt _ _ _, _, h => nomatch h
  | .mutm _ _ _, _, h => nomatch h
  | .xc _ _, _, h => nomatch h
  | .xcm _ _ _ _ _, _, h => nomatch h
  | .mutx _ _, _, h => nomatch h
  | .mutp _ _ _ _, _, h => nomatch h
  | .dpop _ _ _, _, h => nomatch h
  | .dclr _ _, _, h => nomatch h
  | .ev _, _, h => nomatch h
  | .cl _ _, _, h => nomatch h
  | .ixt _ _, _, h => nomatch h
  | .tp _, _, h => nomatch h
end
/-! ### tests that may change boxes -/
def RestY (K : Kx) (W : WX) (σ : L2.St) (F H : Hp) (g : Nat → List Addr) (r : RX) (Q : Bool → Hp → Prop) : Prop :=
  match r with
  | .ok (.bl b) δ' => ∀ F' H' g', Tr F H g F' H' g' → SR K F' H' σ δ' g' → Q b H'
  | .exc c fs δ' => ∀ C d F' H' g', K.ca c = some C → Tr F H g F' H' g' → SR K F' H' σ δ' g' → ExD fs d → W (.ref C) d σ H'
  | _ => False
def tY (K : Kx) (W : WX) (m : List D → RX) : TT := fun σ H Q => ∃ F δ g, Same F H ∧ SR K F H σ δ g ∧ RestY K W σ F H g (m δ) Q
theorem RestY.trans {W : WX} {σ : L2.St} {F H F1 H1 : Hp} {g g1 : Nat → List Addr} {r : RX} {Q : Bool → Hp → Prop} (h : RestY K W σ F H g r Q) (t : Tr F H g F1 H1 g1) : RestY K W σ F1 H1 g1 r Q := by
  cases r with
  | ok d δ' => cases d <;> first | exact h | exact fun F' H' g' t2 s2 => h F' H' g' (t.trans t2) s2
  | exc c fs δ' => exact fun C d F' H' g' e t2 s2 q => h C d F' H' g' e (t.trans t2) s2 q
  | stuck => exact h
theorem RestY.ofX {W : WX} {σ : L2.St} {F H : Hp} {g : Nat → List Addr} {r : RX} {Q : Bool → Hp → Prop} (h : RestY K W σ F H g r Q) : RestX K W σ F H g r fun v H1 => ∃ b, v = .bl b ∧ Q b H1 := by
  cases r with
  | ok d δ' => cases d <;> first | exact h.elim | exact fun v F' H' g' fp t s r n => ⟨_, r.bl_inv, h F' H' g' t s⟩
  | exc c fs δ' => exact h
  | stuck => exact h
theorem RestY.bind {W : WX} {σ : L2.St} {F H : Hp} {g : Nat → List Addr} {r : RX} {f : D → List D → RX} {Q : Bool → Hp → Prop} (hf : ∀ d δ, (∀ b, d ≠ .bl b) → f d δ = .stuck) (h : RestY K W σ F H g (r.bind f) Q) :
    RestY K W σ F H g r fun b H1 => ∃ F1 g1 δ1, Tr F H g F1 H1 g1 ∧ SR K F1 H1 σ δ1 g1 ∧ RestY K W σ F1 H1 g1 (f (.bl b) δ1) Q := by
  cases r with
  | ok d δ' =>
    have h : RestY K W σ F H g (f d δ') Q := h
    by_cases hb : ∃ b, d = .bl b
    · obtain ⟨b, rfl⟩ := hb
      exact fun F' H' g' t s => ⟨F', g', δ', t, s, RestY.trans h t⟩
    · rw [hf d δ' fun b z => hb ⟨b, z⟩] at h
      exact h.elim
  | exc c fs δ' => exact h
  | stuck => exact h
theorem RestY.mono {W : WX} {σ : L2.St} {F H : Hp} {g : Nat → List Addr} {r : RX} {Q Q' : Bool → Hp → Prop} (h : RestY K W σ F H g r Q) (k : ∀ b H, Q b H → Q' b H) : RestY K W σ F H g r Q' := by
  cases r with
  | ok d δ' => cases d <;> first | exact h | exact fun F' H' g' t s => k _ _ (h F' H' g' t s)
  | exc c fs δ' => exact h
  | stuck => exact h
theorem cndX_st {a b : RX} {d : D} (h : ∀ b, d ≠ .bl b) : cndX d a b = .stuck := by
  cases d <;> first | rfl | exact absurd rfl (h _)
theorem sndY (hK : K.exc = none) {X : Cx} {W : WX} {sc : Scope} (c : Cok X W N sc K k fn gl) : ∀ y : Y, (∀ x, chY N sc y x = true → PT X x (tY K W (evy fn gl y))) ∧ ∀ op xs pos, chYb N sc op y xs = true → PW X (.BoolOp op xs pos) (tY K W (evy fn gl y))
  | .t e => by
    refine ⟨fun x h => ?_, fun op xs pos h => by cases xs <;> cases h⟩
    obtain ⟨h1, h2⟩ := and_t h
    refine PT.imp (((snd hK e).pe (W := W) c x h2).2 h1) fun σ H Q q => ?_
    obtain ⟨F, δ, g, s, sr, q⟩ := q
    refine ⟨F, δ, g, s, sr, ?_⟩
    have q : RestY K W σ F H g ((ev fn gl e δ).rxd δ fun d => .ok d δ) Q := q
    cases ee : ev fn gl e δ with
    | stuck => rw [ee] at q; exact q.elim
    | exc cc fs => rw [ee] at q; exact fun C d F' H' e1 b q2 => q C d F' H' g e1 (.same b) (sr.grow b) q2
    | ok d =>
      rw [ee] at q
      cases d with
      | bl b => exact fun F' H' gr => q F' H' g (.same gr) (sr.grow gr)
      | _ => exact q.elim
  | .x v => by
    refine ⟨fun x h => ?_, fun op xs pos h => by cases xs <;> cases h⟩
    obtain ⟨h1, h2⟩ := and_t h
    refine PT.imp (pt_val (sndX (W := W) hK c v x h2) (plain_of h1)) fun σ H Q q => ?_
    obtain ⟨F, δ, g, s, sr, q⟩ := q
    exact ⟨F, δ, g, s, sr, RestY.ofX q⟩
  | .not_ y => by
    refine ⟨fun x h => ?_, fun op xs pos h => by cases xs <;> cases h⟩
    cases x with
    | UnaryOp op x p =>
      cases op with
      | Not =>
        refine PT.imp (pt_not ((sndY hK c y).1 x h)) fun σ H Q q => ?_
        obtain ⟨F, δ, g, s, sr, q⟩ := q
        refine ⟨F, δ, g, s, sr, (RestY.bind (f := notX) (fun d δ h => ?_) q).mono fun b H1 q => ?_⟩
        · cases d <;> first | rfl | exact absurd rfl (h _)
        · obtain ⟨F1, g1, δ1, t, s1, q⟩ := q
          exact q F1 H1 g1 (.refl t.fh) s1
      | _ => cases h
    | _ => cases h
  | .and_ a b => by
    have key : ∀ x y r pos, (chY N sc a x && chYb N sc .And b (y :: r)) = true → PW X (.BoolOp .And (x :: y :: r) pos) (tY K W (evy fn gl (.and_ a b))) := fun x y r pos h => by
      obtain ⟨h1, h2⟩ := and_t h
      refine PW.imp (pw_and ((sndY hK c a).1 x h1) ((sndY hK c b).2 .And _ pos h2)) fun σ H Q q => ?_
      obtain ⟨F, δ, g, s, sr, q⟩ := q
      refine ⟨F, δ, g, s, sr, (RestY.bind (f := fun d δ' => cndX d (evy fn gl b δ') (.ok (.bl false) δ')) (fun d δ h => cndX_st h) q).mono fun t H1 q => ?_⟩
      obtain ⟨F1, g1, δ1, t1, s1, q⟩ := q
      cases t with
      | true => exact ⟨F1, δ1, g1, t1.fh, s1, q⟩
      | false => exact q F1 H1 g1 (.refl t1.fh) s1
    refine ⟨fun x h => ?_, fun op xs pos h => ?_⟩
    · unfold chY at h
      split at h <;> first | (rename_i z; cases z; done) | skip
      all_goals first | (cases h; done) | skip
      rename_i z
      cases z
      exact (key _ _ _ _ h).pt
    · unfold chYb at h
      split at h <;> first | (rename_i z; cases z; done) | skip
      all_goals first | (cases h; done) | skip
      rename_i z
      cases z
      obtain ⟨h1, h2⟩ := and_t h
      cases op with
      | And => exact key _ _ _ pos h2
      | Or => cases h1
  | .or_ a b => by
    have key : ∀ x y r pos, (chY N sc a x && chYb N sc .Or b (y :: r)) = true → PW X (.BoolOp .Or (x :: y :: r) pos) (tY K W (evy fn gl (.or_ a b))) := fun x y r pos h => by
      obtain ⟨h1, h2⟩ := and_t h
      refine PW.imp (pw_or ((sndY hK c a).1 x h1) ((sndY hK c b).2 .Or _ pos h2)) fun σ H Q q => ?_
      obtain ⟨F, δ, g, s, sr, q⟩ := q
      refine ⟨F, δ, g, s, sr, (RestY.bind (f := fun d δ' => cndX d (.ok (.bl true) δ') (evy fn gl b δ')) (fun d δ h => cndX_st h) q).mono fun t H1 q => ?_⟩
      obtain ⟨F1, g1, δ1, t1, s1, q⟩ := q
      cases t with
      | true => exact q F1 H1 g1 (.refl t1.fh) s1
      | false => exact ⟨F1, δ1, g1, t1.fh, s1, q⟩
    refine ⟨fun x h => ?_, fun op xs pos h => ?_⟩
    · unfold chY at h
      split at h <;> first | (rename_i z; cases z; done) | skip
      all_goals first | (cases h; done) | skip
      rename_i z
      cases z
      exact (key _ _ _ _ h).pt
    · unfold chYb at h
      split at h <;> first | (rename_i z; cases z; done) | skip
      all_goals first | (cases h; done) | skip
      rename_i z
      cases z
      obtain ⟨h1, h2⟩ := and_t h
      cases op with
      | Or => exact key _ _ _ pos h2
      | And => cases h1
  | .one y => by
    refine ⟨fun x h => (by unfold chY at h; cases h), fun op xs pos h => ?_⟩
    unfold chYb at h
    split at h <;> first | (rename_i z; cases z; done) | skip
    all_goals first | (cases h; done) | skip
    rename_i z
    cases z
    cases op with
    | And => exact pw_and1 ((sndY hK c y).1 _ h)
    | Or => exact pw_or1 ((sndY hK c y).1 _ h)
end
end PX

/-! PX, part l: loops; the look is right, for statements. -/
namespace PX
open PySem PySem.Spec PyProof.Rows L2

section
variable {X : Cx} {W : WX} {P : Nat → Option V} {K : Kx} {σ : L2.St} {F H : Hp} {view : Bool} {D : Ends} {δ : List PX.D} {g : Nat → List Addr}
theorem Tr.kept {F' H' : Hp} {g' : Nat → List Addr} (t : Tr F H g F' H' g') {A : List Addr} (o : Off g A) : Kept A H H' := fun a ha u e => t.hh a (o a ha) u e
theorem Tr.tup {F' H' : Hp} {g' : Nat → List Addr} (t : Tr F H g F' H' g') (s : SR K F H σ δ g) : ∀ a vs, H a = some (.tup vs) → H' a = some (.tup vs) := fun a vs h => t.hh a (s.not_tup h) _ h
theorem for_ok {tg : Tg} {mb : List PX.D → Out} {xs : List PX.D} {J : It} {A : List Addr} (s : Same F H) (sr : SR K F H σ δ g) (it : IterOk K F H J xs A) (off : Off g A) (hp : Pn P σ) (htg : ∀ i ∈ tgL tg, P i = none)
    (q : RestS K W P F H g (forGo (fun x δ => bindTg tg x δ) mb xs δ) D) :
    ∃ Wx : Nat → Nat → L2.St → Hp → Prop, (∃ m, Wx 0 m σ H) ∧ ∀ i m σ H, Wx i m σ H →
      (J.stop i H ∧ D.nx σ H) ∨ (J.go i H ∧ ∃ N : L2.St → Hp → Prop, (∀ σ' H', N σ' H' → ∃ m', m' < m ∧ Wx (i + 1) m' σ' H') ∧ ∀ x H', J.yld i H x H' → gT K.fr tg x σ H' fun σ2 H2 => tS K W P mb { D with nx := N, ct := N, bk := D.nx } σ2 H2) := by
  obtain ⟨G, Y, w, hG, hY⟩ := it
  refine for_it w (fun i σ' H' => ∃ F' δ' g', Tr F H g F' H' g' ∧ SR K F' H' σ' δ' g' ∧ Pn P σ' ∧ RestS K W P F' H' g' (forGo (fun x δ => bindTg tg x δ) mb (xs.drop i) δ') D)
    ⟨F, δ, g, .refl s, sr, hp, q⟩ (fun i σ' H' hi p => ?_) (fun i x σ1 H1 H2 hi p y => ?_) (fun σ' H' p => ?_)
  · obtain ⟨F', δ', g', t, _⟩ := p
    exact hG H' (t.kept off)
  · obtain ⟨F', δ', g', t, sr', hp', q⟩ := p
    obtain ⟨d, ed, sm, hr⟩ := hY i H1 x H2 hi (t.kept off) (t.tup sr) y
    have dr : xs.drop i = d :: xs.drop (i + 1) := by
      obtain ⟨hl, rfl⟩ := List.getElem?_eq_some_iff.mp ed
      exact List.drop_eq_getElem_cons hl
    rw [dr] at q
    unfold forGo at q
    have gr2 : Grow F' H1 F' H2 := ⟨Same.refl F', t.fh.trans sm, sm, fun _ _ => rfl⟩
    split at q
    · exact q.elim
    · rename_i δ2 eb
      refine tg_ok (sr'.grow gr2) (hr F' t.ff) eb fun σ2 g2 s2 kw kg => ?_
      have t2 : Tr F' H1 g' F' H2 g2 := .ofGrow gr2 fun j p hp => .inl ⟨j, kg j p hp⟩
      have hp2 : Pn P σ2 := hp'.wiped (kw (tgL tg) fun _ h => h) htg
      refine ⟨F', δ2, g2, gr2.fh, s2, hp2, ?_⟩
      split at q
      · rename_i δ3 e3
        rw [e3]
        exact fun F3 σ3 H3 g3 t3 s3 hp3 => ⟨F3, δ3, g3, (t.trans t2).trans t3, s3, hp3, RestS.move q (t2.trans t3)⟩
      · rename_i δ3 e3
        rw [e3]
        exact fun F3 σ3 H3 g3 t3 s3 hp3 => ⟨F3, δ3, g3, (t.trans t2).trans t3, s3, hp3, RestS.move q (t2.trans t3)⟩
      · rename_i δ3 e3
        rw [e3]
        exact fun F3 σ3 H3 g3 t3 s3 => q F3 σ3 H3 g3 (t2.trans t3) s3
      · rename_i n1 n2 n3
        have q := RestS.move q t2
        cases e : mb δ2 with
        | nx δ3 => exact absurd e (n1 δ3)
        | bk δ3 => exact absurd e (n3 δ3)
        | ct δ3 => exact absurd e (n2 δ3)
        | rt d => rw [e] at q; exact q
        | rtx d δ3 => rw [e] at q; exact q
        | exc c fs δ3 => rw [e] at q; exact q
        | stuck => rw [e] at q; exact q
  · obtain ⟨F', δ', g', t, sr', hp', q⟩ := p
    rw [List.drop_length] at q
    unfold forGo at q
    exact q F' σ' H' g' (.refl t.fh) sr' hp'
theorem im_for {ms : List PX.D → Res PX.D} {vs : Bool} {tg : Tg} {mb : List PX.D → Out} (hi : ∀ i ∈ tgL tg, P i = none) : ∀ D σ H, tS K W P (fun δ => ((ms δ).bind (vlD vs)).out δ fun d => match itemsOf d with | none => .stuck | some xs => forGo (fun x δ => bindTg tg x δ) mb xs δ) D σ H →
    tFor (tI K W ms vs) (gT K.fr tg) (tS K W P mb) D σ H := fun D σ H q => by
  obtain ⟨F, δ, g, s, sr, hp, q⟩ := q
  have q : RestS K W P F H g (((ms δ).bind (vlD vs)).out δ fun d => match itemsOf d with | none => .stuck | some xs => forGo (fun x δ => bindTg tg x δ) mb xs δ) D := q
  refine ⟨F, δ, g, s, sr, ?_⟩
  cases e : ms δ with
  | stuck => rw [e] at q; exact q
  | exc c fs =>
    rw [e] at q
    exact fun C d F' H' e b q2 => q C d F' σ H' g e (.same b) (sr.grow b) hp q2
  | ok d =>
    rw [e] at q
    have q : RestS K W P F H g ((vlD vs d).out δ fun d => match itemsOf d with | none => .stuck | some xs => forGo (fun x δ => bindTg tg x δ) mb xs δ) D := q
    cases ev : vlD vs d with
    | stuck => rw [ev] at q; exact q.elim
    | exc c fs => unfold vlD at ev; split at ev <;> cases ev
    | ok d' =>
      obtain ⟨e1, e2⟩ := vl_ok ev
      subst e1
      rw [ev] at q
      have q : RestS K W P F H g (match itemsOf d' with | none => .stuck | some xs => forGo (fun x δ => bindTg tg x δ) mb xs δ) D := q
      split at q
      · exact q.elim
      · rename_i xs ei
        exact ⟨xs, ei, fun J F' H' A gr it off => for_ok gr.fh (sr.grow gr) it (off e2) hp hi (RestS.move q (.ofGrow gr fun i p hp => .inl ⟨i, hp⟩))⟩
theorem im_wh {mc : List PX.D → Res PX.D} {mb : List PX.D → Out} {n : Nat} : ∀ D σ H, tS K W P (fun δ => whGo mc mb n δ) D σ H → tWhile (tT K W mc) (tS K W P mb) D σ H := fun D σ H q => by
  obtain ⟨F, δ, g, s, sr, hp, q⟩ := q
  refine ⟨fun m σ' H' => ∃ F' δ' g', Same F' H' ∧ SR K F' H' σ' δ' g' ∧ Pn P σ' ∧ RestS K W P F' H' g' (whGo mc mb m δ') D, ⟨n, F, δ, g, s, sr, hp, q⟩, fun m σ1 H1 p => ?_⟩
  obtain ⟨F', δ', g', s', sr', hp', q⟩ := p
  refine ⟨F', δ', g', s', sr', ?_⟩
  cases m with
  | zero => exact q.elim
  | succ m =>
    unfold whGo at q
    split at q
    · rename_i e
      rw [e]
      intro F2 H2 gr
      rw [if_pos rfl]
      have t : Tr F' H1 g' F2 H2 g' := .ofGrow gr fun i p hp => .inl ⟨i, hp⟩
      refine ⟨fun σ3 H3 => ∃ F3 δ3 g3, Same F3 H3 ∧ SR K F3 H3 σ3 δ3 g3 ∧ Pn P σ3 ∧ RestS K W P F3 H3 g3 (whGo mc mb m δ3) D, fun σ3 H3 p => ⟨m, Nat.lt_succ_self m, p⟩, F2, δ', g', gr.fh, sr'.grow gr, hp', ?_⟩
      split at q
      · rename_i δ3 e3
        rw [e3]
        exact fun F3 σ3 H3 g3 t3 s3 hp3 => ⟨F3, δ3, g3, t3.fh, s3, hp3, RestS.move q (t.trans t3)⟩
      · rename_i δ3 e3
        rw [e3]
        exact fun F3 σ3 H3 g3 t3 s3 hp3 => ⟨F3, δ3, g3, t3.fh, s3, hp3, RestS.move q (t.trans t3)⟩
      · rename_i δ3 e3
        rw [e3]
        exact fun F3 σ3 H3 g3 t3 s3 => q F3 σ3 H3 g3 (t.trans t3) s3
      · rename_i n1 n2 n3
        have q := RestS.move q t
        cases e : mb δ' with
        | nx δ3 => exact absurd e (n1 δ3)
        | bk δ3 => exact absurd e (n3 δ3)
        | ct δ3 => exact absurd e (n2 δ3)
        | rt d => rw [e] at q; exact q
        | rtx d δ3 => rw [e] at q; exact q
        | exc c fs δ3 => rw [e] at q; exact q
        | stuck => rw [e] at q; exact q
    · rename_i e
      rw [e]
      intro F2 H2 gr
      rw [if_neg (by simp)]
      exact q F2 σ1 H2 g' (.ofGrow gr fun i p hp => .inl ⟨i, hp⟩) (sr'.grow gr) hp'
    · rename_i c fs e
      rw [e]
      exact fun C d F' H' e b q2 => q C d F' σ1 H' g' e (.same b) (sr'.grow b) hp' q2
    · exact q.elim
end

structure Sok (X : Cx) (K : Kx) (sc : Scope) (ex : Xs) : Prop where
  own : PassesOwn (model X.prog X.w) X.A X.env X.xe
  wr : Wr X sc
  kind : sc.kind = .function
  exs : K.xs = ex
  stk : X.stack = X.env :: X.outer
  frm : X.env.frame = some X.env.locals
structure SndS (N : List Str) (K : Kx) (k : Nat) (fn : Str → Option (List D → Res D)) (gl : Str → Option D) (ex : Xs) (P : Nat → Option V) (b : S) : Prop where
  ps : ∀ {X : Cx} {W : WX} {sc : Scope}, Cok X W N sc K k fn gl → Sok X K sc ex → ∀ st, chS N sc b st = true → PS X st (tS K W P (exec fn gl ex b))
  pss : ∀ {X : Cx} {W : WX} {sc : Scope}, Cok X W N sc K k fn gl → Sok X K sc ex → ∀ sts, chSs N sc b sts = true → PSs X sts (tS K W P (exec fn gl ex b))
section
variable {N : List Str} {K : Kx} {k : Nat} {fn : Str → Option (List D → Res D)} {gl : Str → Option D} {ex : Xs} {P : Nat → Option V}
theorem SndS.ofPS {b : S} (ps : ∀ {X : Cx} {W : WX} {sc : Scope}, Cok X W N sc K k fn gl → Sok X K sc ex → ∀ st, chS N sc b st = true → PS X st (tS K W P (exec fn gl ex b)))
    (h : ∀ sc sts, chSs N sc b sts = false := by intros; rfl) : SndS N K k fn gl ex P b := ⟨ps, fun _ _ _ e => by rw [h] at e; cases e⟩
theorem t_skip : SndS N K k fn gl ex P .skip := by
  refine ⟨fun {X W sc} c w st h => ?_, fun {X W sc} c w sts h => ?_⟩
  · cases st with
    | Pass p =>
      refine PS.imp ps_pass fun D σ H q => ?_
      obtain ⟨F, δ, g, s, sr, hp, q⟩ := q
      exact q F σ H g (.refl s) sr hp
    | Expr x p =>
      cases x with
      | Constant v jj p2 =>
        cases v with
        | str _ =>
          refine PS.imp ps_doc fun D σ H q => ?_
          obtain ⟨F, δ, g, s, sr, hp, q⟩ := q
          exact q F σ H g (.refl s) sr hp
        | _ => cases h
      | _ => cases h
    | _ => cases h
  · cases sts with
    | nil =>
      refine PSs.imp pss_nil fun D σ H q => ?_
      obtain ⟨F, δ, g, s, sr, hp, q⟩ := q
      exact q F σ H g (.refl s) sr hp
    | cons _ _ => cases h
theorem lc_set (hK : K.exc = none) {X : Cx} {W : WX} {sc : Scope} (c : Cok X W N sc K k fn gl) (w : Sok X K sc ex) {own : List Nat} {tg : Tg} {src q e : E} {i : Nat} {y : Str} {py spos : Pos} {v : Expr} (hn : N[i]? = some y) (hl : sc.names.lookup y = some .local)
    (h : chE N sc (.lc own tg src q e) v = true) (sw : swB y py.line v = true) : PS X (.Assign [.Name y py] v spos) (tAsg (tE K W (ev fn gl (.lc own tg src q e)) (E.view (.lc own tg src q e))) (gName i)) := by
  cases v with
  | ListComp elt gens scope p =>
    cases gens with
    | nil => cases h
    | cons gen gens =>
      cases gens with
      | cons _ _ => cases gen; cases h
      | nil =>
        obtain ⟨t, it, ifs, as⟩ := gen
        obtain ⟨h1, b1⟩ := and_t h
        obtain ⟨h2, b2⟩ := and_t b1
        obtain ⟨h3, b3⟩ := and_t b2
        obtain ⟨h4, b4⟩ := and_t b3
        obtain ⟨h5, b5⟩ := and_t b4
        obtain ⟨h6, b6⟩ := and_t b5
        obtain ⟨h7, h8⟩ := and_t b6
        have ea : as = 0 := of_decide_eq_true h1
        subst ea
        have eo : own = (ownP N scope).map (·.2) := of_decide_eq_true h3
        have ok : BlkOk X.N X.env.scope scope (ownP N scope) := by
          rw [c.hN, c.hsc]
          exact blkOk_by h2
        obtain ⟨s1, s2⟩ := and_t sw
        have s2 : (scope.names.any fun (n, k) => n == y && (k == .local || k == .cell)) = false := by simpa using s2
        have hy : X.env.scope.names.lookup y = some .local := by rw [c.hsc]; exact hl
        refine PS.imp (ps_setLc (c.calm hK) (by rw [c.hN]; exact c.nd) (c.ix hn) hy (sw_true (by rw [c.hsc]; exact w.kind) hy s1 s2) ((snd hK src).pi c tg t it (tgShape h6) h4) ok (fun s H C cl fp => pg_tgt (X := X.blk s H scope (compEnvC scope cl C X.env) fp) c.hN c.nd (Wr.blk c) (c.calm hK) c.kfr h6)
          (fun s H C cl fp => (snd hK q).pc (c.blk hK (s := s) (H := H) (C := C) (cl := cl) (fp := fp)) ifs h7) (fun s H C cl fp => ((snd hK e).pe (c.blk hK (s := s) (H := H) (C := C) (cl := cl) (fp := fp)) elt h8).1) (set_of (notSet_of h4))) fun D σ H q => ?_
        rw [← eo]
        exact lc_imp h5 σ H _ q
  | _ => cases h
theorem PS.impA {X : Cx} {st : Stmt} {te te' : TE} {g : TG} (h : PS X st (tAsg te g)) (k : ∀ σ H Q, te' σ H Q → te σ H Q) : PS X st (tAsg te' g) := PS.imp h fun D σ H q => k σ H _ q
theorem sw_false {sc : Scope} {x : Str} {px : Pos} {v : Expr} {l : Nat} {env : Env} (hs : env.scope = sc) (h : swF sc x px.line v = true) : swapsWith v (some (.Name x px)) l env = pure false := by
  cases v with
  | ListComp elt gens scope p =>
    have h : (!(decide (sc.names.lookup x = some .local) && ((px.line == p.line) && !(scope.names.any fun (n, k) => n == x && (k == .local || k == .cell))))) = true := h
    subst hs
    have e : (env.blockKind == .function && env.kindOf x == some .local && px.line == p.line && !(scope.names.any fun (n, k) => n == x && (k == .local || k == .cell))) = false := by
      have ek : (env.kindOf x == some .local) = decide (env.scope.names.lookup x = some .local) := by
        show (env.scope.names.lookup x == some .local) = _
        cases hq : decide (env.scope.names.lookup x = some NameKind.local) with
        | true => rw [of_decide_eq_true hq]; rfl
        | false => exact beq_eq_false_iff_ne.mpr (of_decide_eq_false hq)
      rw [ek]
      generalize decide (env.scope.names.lookup x = some NameKind.local) = A at h ⊢
      generalize (px.line == p.line) = B at h ⊢
      generalize (!(scope.names.any fun (n, k) => n == x && (k == .local || k == .cell))) = C at h ⊢
      generalize (env.blockKind == ScopeKind.function) = G
      cases A <;> cases B <;> cases C <;> cases G <;> first | rfl | cases h
    show (pure (env.blockKind == .function && env.kindOf x == some .local && px.line == p.line && !(scope.names.any fun (n, k) => n == x && (k == .local || k == .cell))) : Sem Bool) = pure false
    rw [e]
  | _ => cases h
theorem t_asg {i : Nat} {e : E} (hi : P i = none) (ie : Snd N K k fn gl e) (hl : K.exc = none ∨ ∀ own tg src q e', e ≠ .lc own tg src q e') : SndS N K k fn gl ex P (.asg i e) := by
  refine .ofPS fun {X W sc} c w st h => ?_
  cases st with
  | Assign ts v p =>
    cases ts with
    | nil => cases h
    | cons t ts =>
      cases ts with
      | cons _ _ => cases t <;> cases h
      | nil =>
        cases t with
        | Name x px =>
          obtain ⟨h1, h2⟩ := and_t h
          obtain ⟨h2, h3⟩ := and_t h2
          obtain ⟨hcl, h2⟩ := and_t h2
          obtain ⟨n1, n2⟩ := nm_of h1
          refine PS.imp (t := tAsg (tE K W (ev fn gl e) e.view) (gName i)) ?_ (im_asg hi)
          rcases Bool.or_eq_true_iff.mp h3 with h3 | h3
          · exact ps_set (by rw [c.hN]; exact c.nd) (c.ix n1) (w.wr x n2).1 (ie.pe c v h2).1 (lc_of h3) (w.wr x n2).2
          rcases Bool.or_eq_true_iff.mp h3 with h3 | h3
          rotate_left
          · exact ps_set (by rw [c.hN]; exact c.nd) (c.ix n1) (w.wr x n2).1 (ie.pe c v h2).1 (sw_false c.hsc h3) (w.wr x n2).2
          · obtain ⟨h4, h5⟩ := and_t h3
            have h4 : sc.names.lookup x = some .local := of_decide_eq_true h4
            cases v with
            | ListComp elt gens scope p2 =>
              cases e with
              | lc own tg src q e => exact lc_set (hl.elim id fun z => absurd rfl (z own tg src q e)) c w n1 h4 h2 h5
              | lcl own tg src q e => cases hcl
              | _ => cases h2
            | _ => cases h5
        | _ => cases h
  | _ => cases h
theorem sole_of {t v : Expr} {l : Nat} {env : Env} (h : notLC v = true) : swapsWithSole [t] v l env = pure false := by
  cases v <;> first | rfl | cases h
theorem swapped_of {es : List Expr} {kk : Nat} {p : Pos} {v : Expr} {env : Env} (h : notTup v = true) : swappedStores [.Tuple es kk p] v env = pure none := by
  cases v <;> first | rfl | cases h
theorem t_asgt (hK : K.exc = none) {is : List Nat} {e : E} (hi : ∀ i ∈ is, P i = none) : SndS N K k fn gl ex P (.asgt is e) := by
  refine .ofPS fun {X W sc} c w st h => ?_
  cases st with
  | Assign ts v p =>
    cases ts with
    | nil => cases h
    | cons t ts =>
      cases ts with
      | cons _ _ => cases t <;> cases h
      | nil =>
        cases t with
        | Tuple es kk px =>
          obtain ⟨h1, h2⟩ := and_t h
          obtain ⟨h2, h3⟩ := and_t h2
          obtain ⟨h3, h4⟩ := and_t h3
          obtain ⟨k1, k2, k3⟩ := pgs_nms (X := X) c.hN c.nd w.wr h1
          have g1 := pg_tup (pos := px) (k := kk) (c.calm hK) k1 k2 k3
          rw [c.kfr] at g1
          exact PS.imp (ps_asg ((snd hK e).pe c v h2).1 g1 (sole_of h3) (swapped_of h4)) (im_asgt hi)
        | _ => cases h
  | _ => cases h
theorem t_app (hK : K.exc = none) {i : Nat} {e : E} : SndS N K k fn gl ex P (.app i e) := by
  refine .ofPS fun {X W sc} c w st h => ?_
  cases st with
  | Expr x p =>
    cases x with
    | Call fe xs kws p2 =>
      cases fe with
      | Attribute o n ap =>
        cases o with
        | Name x px =>
          cases xs with
          | nil => cases h
          | cons y xs =>
            cases xs with
            | cons _ _ => cases h
            | nil =>
              cases kws with
              | cons _ _ => cases h
              | nil =>
                obtain ⟨h1, b1⟩ := and_t h
                obtain ⟨h2, b2⟩ := and_t b1
                obtain ⟨h3, b3⟩ := and_t b2
                obtain ⟨h4, b4⟩ := and_t b3
                obtain ⟨h5, h6⟩ := and_t b4
                clear b1 b2 b3 b4
                obtain ⟨n1, n2⟩ := nm_of h1
                have e3 : n = "append" := of_decide_eq_true h3
                subst e3
                have lx := (w.wr x n2).1
                have vx : Vis X.env.scope x := by
                  rcases lx with z | z
                  · exact .inl z
                  · exact .inr (.inl z)
                have P := pe_bm (X := X) (apos := ap) (cpos := p2) PySem.F.plainAttrs_list PySem.F.slot_list_append PySem.F.type_list_append mt_append (pe_var (pos := px) (c.ix n1) vx (dbg_of h2).1 (dbg_of h2).2) (pa_cons ((snd hK e).pe c y h6).1 pa_nil (star_of h5)) rfl (by rw [star_of h5]; rfl) h4 (star_of h5) rfl
                rw [c.kfr] at P
                exact PS.imp (ps_expr P) im_app
        | _ => cases h
      | _ => cases h
    | _ => cases h
  | _ => cases h
theorem t_put (hK : K.exc = none) {i : Nat} {pt : List E} {kk e : E} : SndS N K k fn gl ex P (.put i pt kk e) := by
  refine .ofPS fun {X W sc} c w st h => ?_
  cases st with
  | Assign ts v p =>
    cases ts with
    | nil => cases h
    | cons t ts =>
      cases ts with
      | cons _ _ => cases t <;> cases h
      | nil =>
        cases t with
        | Subscript o y px =>
          obtain ⟨h1, b1⟩ := and_t h
          obtain ⟨h3, b3⟩ := and_t b1
          obtain ⟨h4, h5⟩ := and_t b3
          clear b1 b3
          have sl : ∀ v, assign (.Subscript o y px) X.env v = (do
              let ov ← holding [v] (eval o X.env)
              let iv ← holding [v, ov] (eval y X.env)
              standAt px
              holding [v, ov, iv] (setItem ov iv v)
              release [v, ov, iv] []) := by
            intro v
            cases y <;> first | rfl | cases h3
          exact PS.imp (ps_asg ((snd hK e).pe c v h5).1 (pg_sub (pe_pt hK c h1) ((snd hK kk).pe c y h4).1 (set_all (by have := c.hu; omega)) sl) (by cases v <;> rfl) (by cases v <;> rfl)) im_put
        | _ => cases h
  | _ => cases h
theorem t_never : SndS N K k fn gl ex P .never := by
  refine .ofPS fun {X W sc} c w st h => ⟨fun pins s σ H D I q => ?_⟩
  obtain ⟨F, δ, g, s, sr, hp, q⟩ := q
  exact q.elim
theorem t_xasg (hK : K.exc = none) {i : Nat} {x : PX.X} (hi : P i = none) : SndS N K k fn gl ex P (.xasg i x) := by
  refine .ofPS fun {X W sc} c w st h => ?_
  cases st with
  | Assign ts v p =>
    cases ts with
    | nil => cases h
    | cons t ts =>
      cases ts with
      | cons _ _ => cases t <;> cases h
      | nil =>
        cases t with
        | Name y px =>
          obtain ⟨h1, h2'⟩ := and_t h
          obtain ⟨h2, h3⟩ := and_t h2'
          obtain ⟨n1, n2⟩ := nm_of h1
          exact PS.imp (t := tAsg (tX K W (evx fn gl x)) (gName i)) (ps_set (by rw [c.hN]; exact c.nd) (c.ix n1) (w.wr y n2).1 (sndX hK c x v h2) (lc_of h3) (w.wr y n2).2) (im_xasg hi)
        | _ => cases h
  | _ => cases h
theorem t_xasgt (hK : K.exc = none) {is : List Nat} {x : PX.X} (hi : ∀ i ∈ is, P i = none) : SndS N K k fn gl ex P (.xasgt is x) := by
  refine .ofPS fun {X W sc} c w st h => ?_
  cases st with
  | Assign ts v p =>
    cases ts with
    | nil => cases h
    | cons t ts =>
      cases ts with
      | cons _ _ => cases t <;> cases h
      | nil =>
        cases t with
        | Tuple es kk px =>
          obtain ⟨h1, h2'⟩ := and_t h
          obtain ⟨h2, h3'⟩ := and_t h2'
          obtain ⟨h3, h4⟩ := and_t h3'
          obtain ⟨k1, k2, k3⟩ := pgs_nms (X := X) c.hN c.nd w.wr h1
          have g1 := pg_tup (pos := px) (k := kk) (c.calm hK) k1 k2 k3
          rw [c.kfr] at g1
          exact PS.imp (ps_asg (sndX hK c x v h2) g1 (sole_of h3) (swapped_of h4)) (im_xasgt hi)
        | _ => cases h
  | _ => cases h
theorem t_xdrop (hK : K.exc = none) {x : PX.X} : SndS N K k fn gl ex P (.xdrop x) := by
  refine .ofPS fun {X W sc} c w st h => ?_
  cases st with
  | Expr v p => exact PS.imp (ps_expr (sndX hK c x v (and_t h).1) (lc_of (and_t h).2)) im_xdrop
  | _ => cases h
theorem t_ife (hK : K.exc = none) {t : E} {a b : S} (ia : SndS N K k fn gl ex P a) (ib : SndS N K k fn gl ex P b) : SndS N K k fn gl ex P (.ife t a b) := by
  refine .ofPS fun {X W sc} c w st h => ?_
  cases st with
  | If x ss ts p =>
    obtain ⟨h1, h2⟩ := and_t h
    obtain ⟨h0, h1⟩ := and_t h1
    obtain ⟨h2, h3⟩ := and_t h2
    exact PS.imp (ps_if (((snd hK t).pe c x h1).2 h0) (ia.pss c w ss h2) (ib.pss c w ts h3)) im_if
  | _ => cases h
theorem t_for (hK : K.exc = none) {tg : Tg} {src : E} {b : S} (hi : ∀ i ∈ tgL tg, P i = none) (ib : SndS N K k fn gl ex P b) : SndS N K k fn gl ex P (.for_ tg src b) := by
  refine .ofPS fun {X W sc} c w st h => ?_
  cases st with
  | For t it ss els p =>
    cases els with
    | cons _ _ => cases h
    | nil =>
      obtain ⟨h1, h2⟩ := and_t h
      obtain ⟨h2, h3⟩ := and_t h2
      obtain ⟨h3, h4⟩ := and_t h3
      exact PS.imp (ps_for w.own (c.calm hK) ((snd hK src).pi c tg t it (tgShape h1) h2) (pg_tgt c.hN c.nd w.wr (c.calm hK) c.kfr h1) (ib.pss c w ss h4) (set_of h3)) (im_for hi)
  | _ => cases h
theorem im_ret2 {i j : Nat} : ∀ D σ H, tS K W P (exec fn gl ex (.ret2 i j)) D σ H → tRet (tTup (tCons (tVar i) (tCons (tVar j) tNil))) D σ H := fun D σ H q => by
  obtain ⟨F, δ, g, s, sr, hp, q⟩ := q
  have q : RestS K W P F H g (if i = j then .stuck else match δ[i]?, δ[j]? with
    | some .dead, _ => .stuck
    | _, some .dead => .stuck
    | some a, some b => .rt (.tup [a, b])
    | _, _ => .stuck) D := q
  split at q
  · exact q.elim
  rename_i hij
  split at q
  · exact q.elim
  · exact q.elim
  · rename_i a b n1 n2 ea eb
    obtain ⟨v, ev, r1⟩ := sr.rel i a ea fun z => n1 (by rw [z])
    obtain ⟨w, ew, r2⟩ := sr.rel j b eb fun z => n2 (by rw [z])
    refine ⟨v, ev, w, ew, by show 2 ≤ sizeLine; decide, fun p hp => ?_⟩
    have sm : Same H (L2.upd H p (.tup [v, w])) := same_new hp
    have gr : Grow F H F (L2.upd H p (.tup [v, w])) := ⟨Same.refl F, s.trans sm, sm, fun _ _ => rfl⟩
    have mv : ∀ {u : V} {d : PX.D} {fp : List Addr}, R K F H u d fp → R K F (L2.upd H p (.tup [v, w])) u d fp := fun r => gr.r r
    have rr : R K F (L2.upd H p (.tup [v, w])) (.ref p) (.tup [a, b]) (g i ++ (g j ++ [])) := .tup upd_same (.cons (mv r1) (.cons (mv r2) .nil (fun _ _ z => nomatch z)) fun x hx hy => by
      rw [List.append_nil] at hy
      exact sr.dis i j hij x hx hy)
    refine q (.ref p) F _ _ (.ofGrow gr fun k x hx => .inl ?_) rr
    rcases List.mem_append.mp hx with z | z
    · exact ⟨i, z⟩
    · rw [List.append_nil] at z
      exact ⟨j, z⟩
  · exact q.elim
theorem t_ret2 {i j : Nat} : SndS N K k fn gl ex P (.ret2 i j) := by
  refine .ofPS fun {X W sc} c w st h => ?_
  cases st with
  | Return v p =>
    cases v with
    | none => cases h
    | some e =>
      cases e with
      | Tuple xs kk p2 =>
        cases xs with
        | nil => cases h
        | cons x xs =>
          cases x with
          | Name x px =>
            cases xs with
            | nil => cases h
            | cons y xs =>
              cases y with
              | Name y py =>
                cases xs with
                | cons _ _ => cases h
                | nil =>
                  obtain ⟨h1, h2⟩ := and_t h
                  exact PS.imp (ps_ret (pe_tup (pa_cons (nm_pe c h1) (pa_cons (nm_pe c h2) pa_nil rfl) rfl))) im_ret2
              | _ => cases h
          | _ => cases h
      | _ => cases h
  | _ => cases h
theorem SR.other {F H : Hp} {σ : L2.St} {δ : List D} {g : Nat → List Addr} (s : SR K F H σ δ g) {x : Nat} (hx : δ[x]? = some .dead) (v : V) : SR K F H (σ.set x (some v)) δ g := by
  refine ⟨by rw [List.length_set]; exact s.len, fun j d e hd => ?_, s.dis, s.own⟩
  have hne : x ≠ j := fun z => by
    subst z
    rw [hx] at e
    cases e
    exact hd rfl
  obtain ⟨w, ew, r⟩ := s.rel j d e hd
  exact ⟨w, by rw [List.getElem?_set_ne hne]; exact ew, r⟩
theorem im_spl {x i : Nat} {m : Mop} {args : E} (hi : P x = none) : ∀ D σ H, tS K W P (exec fn gl ex (.spl x i m args)) D σ H → tFor (iList K.fr (tVar i)) (gT K.fr (.nm x)) (tSeq (tDrop (tBM K.fr "list" (rMop m) (tVar x) (tK K W (ev fn gl args)))) tNext) D σ H := fun D σ H q => by
  obtain ⟨F, δ, g, s, sr, hp, q⟩ := q
  have q : RestS K W P F H g (if i = x ∨ δ.length ≤ x then .stuck else match δ[i]? with
    | some (.box true .lst ys) => splGo fn gl i m args ys.length 0 (δ.set x .dead)
    | _ => .stuck) D := q
  split at q
  · exact q.elim
  rename_i hne
  have hix : i ≠ x := fun z => hne (.inl z)
  have hlx : x < δ.length := by
    have := fun z => hne (.inr z)
    omega
  split at q
  rotate_left
  · exact q.elim
  rename_i ys ei
  obtain ⟨a, vs, fp0, ev0, eg, ha, rs, na⟩ := sr.ownL ei
  refine ⟨.ref a, ev0, a, rfl, ⟨vs, SqL.of ha⟩, ?_⟩
  have hlen : vs.length = ys.length := rs.length
  have t0 : Tr F H g F H (gset g x []) := .ofGrow (Grow.refl s) fun j p hp => by
    by_cases e : j = x
    · subst e; rw [gset_same] at hp; cases hp
    · rw [gset_ne e] at hp; exact .inl ⟨j, hp⟩
  refine for_it (walk_list (xs := vs)) (fun k σ' H' => ∃ F' δ' g' ys', Tr F H g F' H' g' ∧ SR K F' H' σ' δ' g' ∧ δ'[x]? = some .dead ∧ δ'[i]? = some (.box true .lst ys') ∧ σ'[i]? = some (some (.ref a)) ∧ H' a = some (.lst vs) ∧ Pn P σ' ∧ RestS K W P F' H' g' (splGo fn gl i m args (ys.length - k) k δ') D)
    ⟨F, δ.set x .dead, gset g x [], ys, t0, sr.kill x, List.getElem?_set_self hlx, by rw [List.getElem?_set_ne (fun z => hix z.symm)]; exact ei, ev0, ha, hp, RestS.move q t0⟩ (fun k σ' H' hk p => ?_) (fun k v σ' H' H2 hk p y => ?_) (fun σ' H' p => ?_)
  · obtain ⟨F', δ', g', ys', t, sr', ex', ei', ev', ha', hp', q⟩ := p
    exact SqL.of ha'
  · obtain ⟨F', δ', g', ys', t, sr', ex', ei', ev', ha', hp', q⟩ := p
    obtain ⟨rfl, evk⟩ := y
    have hlx' : x < σ'.length := by
      have h1 := sr'.len
      have h2 := (List.getElem?_eq_some_iff.mp ex').1
      omega
    have sr2 := sr'.other ex' v
    have hpv := hp'.set hi (some v)
    rw [show ys.length - k = (ys.length - (k + 1)) + 1 by omega] at q
    unfold splGo at q
    rw [ei'] at q
    dsimp only at q
    refine ⟨v, List.getElem?_set_self hlx', ?_⟩
    split at q
    rotate_left
    · exact q.elim
    rename_i b eb
    split at q
    rotate_left
    · exact q.elim
    rename_i ho
    obtain ⟨zs, rfl⟩ := isOwn_of ho
    have evi : (σ'.set x (some v))[i]? = some (some (.ref a)) := by rw [List.getElem?_set_ne (fun z => hix z.symm)]; exact ev'
    have eat : atP (.box true .lst ys') [k] = some (.box true .lst zs) := by
      show (kidD (.box true .lst ys') k).bind _ = _
      show (ys'[k]?).bind _ = _
      rw [eb]
      rfl
    have av : AtV H2 (.ref a) [k] v := .cons ha' evk .nil
    obtain ⟨bA, oo, us, fx, rfl, hb, hk1, hs, nb, ib, sub, nf, _⟩ := SR.rewrite (b' := .non) t.fh sr2 (Grow.refl t.fh) ei' evi eat av rfl
    cases hk1
    refine ⟨.inl ⟨rfl, us, SqL.of hb⟩, F', δ', g', t.fh, sr2, ?_⟩
    have hba : bA ≠ a := fun z => by
      obtain ⟨a2, vs2, fp2, ev2, eg2, ha2, rs2, na2⟩ := sr'.ownL ei'
      rw [ev'] at ev2
      cases ev2
      rw [ha'] at ha2
      cases ha2
      obtain ⟨d, gg, e1, r1, s1⟩ := rs2.get' evk
      rw [eb] at e1
      cases e1
      obtain ⟨a3, vs3, fx3, e3, efp, _⟩ := r1.own_lst
      cases e3
      exact na2 (z ▸ s1 bA (by rw [efp]; exact List.mem_cons_self))
    cases ea : ev fn gl args δ' with
    | stuck => rw [ea] at q; exact q.elim
    | exc cc fs =>
      rw [ea] at q
      exact fun C d F3 H3 e1 b2 e2 => q C d F3 _ H3 g' e1 (.same b2) (sr2.grow b2) hpv e2
    | ok da =>
      rw [ea] at q
      dsimp only at q
      intro ws F3 H3 fa gr2 ra na2
      cases em : mopD m (.box true .lst zs) (unT da) with
      | none => rw [em] at q; exact q.elim
      | some rr =>
        rw [em] at q
        dsimp only at q
        have av2 := av.mono gr2.hh
        obtain ⟨bA2, oo2, us2, fx2, e2a, hb2, hk2, hs2, nb2, ib2, sub2, nf2, fin⟩ := SR.rewrite (b' := rr.2) t.fh sr2 gr2 ei' evi eat av2 rfl
        cases e2a
        cases hk2
        refine mop_ok hb2 hs2 ra (fun p hp z => sr2.fresh' (na2 p hp) i (sub2 p z)) em fun v' vs' xs' fv fx' e' rs' rv' s1 s2 => ?_
        have nax : bA ∉ fx' := fun z => by
          rcases s2 bA z with w | w
          · exact nb2 w
          · exact sr2.fresh' (na2 bA w) i ib2
        obtain ⟨g3, t3, sr3, off, at_i⟩ := fin .lst (.lst vs') vs' xs' fx' e' (.lst vs') rs' nax fun p hp => by
          rcases s2 p hp with w | w
          · exact .inl w
          · exact .inr (na2 p w)
        have eset : setP (.box true .lst ys') [k] rr.2 = .box true .lst (ys'.set k rr.2) := by
          show (match kidD (.box true .lst ys') k with | some d' => putD (.box true .lst ys') k (setP d' [] rr.2) | none => .box true .lst ys') = _
          have : kidD (.box true .lst ys') k = some (.box true .lst zs) := eb
          rw [this]
          rfl
        rw [eset] at sr3
        have hli : i < δ'.length := (List.getElem?_eq_some_iff.mp ei').1
        exact ⟨F3, _, g3, ys'.set k rr.2, t.trans t3, sr3, by rw [List.getElem?_set_ne hix]; exact ex', List.getElem?_set_self hli, evi, by rw [upd_ne (fun z => hba z.symm)]; exact gr2.hh _ _ ha', hpv, RestS.move q t3⟩
  · obtain ⟨F', δ', g', ys', t, sr', ex', ei', ev', ha', hp', q⟩ := p
    rw [hlen, Nat.sub_self] at q
    unfold splGo at q
    exact q F' σ' H' g' (.refl t.fh) sr' hp'
theorem t_spl (hK : K.exc = none) {x i : Nat} {m : Mop} {args : E} (hi : P x = none) : SndS N K k fn gl ex P (.spl x i m args) := by
  refine .ofPS fun {X W sc} c w st h => ?_
  cases st with
  | For t it ss els p =>
    cases it with
    | Name y py =>
      cases ss with
      | nil => cases h
      | cons s1 ss =>
        cases s1 with
        | Expr e p2 =>
          cases e with
          | Call fe xs kws q =>
            cases fe with
            | Attribute o n ap =>
              cases o with
              | Name x2 px =>
                cases kws with
                | cons _ _ => cases h
                | nil =>
                  cases ss with
                  | cons _ _ => cases h
                  | nil =>
                    cases els with
                    | cons _ _ => cases h
                    | nil =>
                      obtain ⟨h1, b1⟩ := and_t h
                      obtain ⟨h2, b2⟩ := and_t b1
                      obtain ⟨h3, b3⟩ := and_t b2
                      obtain ⟨h4, b4⟩ := and_t b3
                      obtain ⟨h5, b5⟩ := and_t b4
                      obtain ⟨h6, h7⟩ := and_t b5
                      have e1 := of_decide_eq_true h4
                      subst e1
                      have P := pe_mop (fn := fn) (gl := gl) (K := K) (W := W) (ap := ap) (p := q) (to := tVar x) (fun σ H Q Q' k q => let ⟨v, e, z⟩ := q; ⟨v, e, k _ _ z⟩) (nm_pe (p := px) c h3) ((snd hK args).pk c xs h7) (of_decide_eq_true h6) rfl h5 h7
                      have B := pss_cons (ps_expr (pos := p2) P) (pss_nil (X := X))
                      have I := pi_list (X := X) (tg := t) (nm_pe (p := py) c h2)
                      rw [c.kfr] at I B
                      exact PS.imp (ps_for w.own (c.calm hK) I (pg_tgt c.hN c.nd w.wr (c.calm hK) c.kfr h1) B (set_of rfl)) (im_spl hi)
              | _ => cases h
            | _ => cases h
          | _ => cases h
        | _ => cases h
    | _ => cases h
  | _ => cases h
theorem t_wh (hK : K.exc = none) {n : Nat} {t : E} {b : S} (ib : SndS N K k fn gl ex P b) : SndS N K k fn gl ex P (.wh n t b) := by
  refine .ofPS fun {X W sc} c w st h => ?_
  cases st with
  | While x ss els p =>
    cases els with
    | cons _ _ => cases h
    | nil =>
      obtain ⟨h1, h2⟩ := and_t h
      obtain ⟨h0, h1⟩ := and_t h1
      exact PS.imp (ps_while w.own (((snd hK t).pe c x h1).2 h0) (ib.pss c w ss h2)) im_wh
  | _ => cases h
theorem t_ret {e : E} (ie : Snd N K k fn gl e) : SndS N K k fn gl ex P (.ret e) := by
  refine .ofPS fun {X W sc} c w st h => ?_
  cases st with
  | Return v p =>
    cases v with
    | none => cases h
    | some x => exact PS.imp (ps_ret (ie.pe c x h).1) im_ret
  | _ => cases h
theorem t_retv {i : Nat} : SndS N K k fn gl ex P (.retv i) := by
  refine .ofPS fun {X W sc} c w st h => ?_
  cases st with
  | Return v p =>
    cases v with
    | none => cases h
    | some x =>
      cases x with
      | Name y p =>
        obtain ⟨h1, h2⟩ := and_t h
        obtain ⟨h2, h3⟩ := and_t h2
        have h1 : N[i]? = some y := of_decide_eq_true h1
        exact PS.imp (ps_ret (pe_var (c.ix h1) (c.vis h2) (dbg_of h3).1 (dbg_of h3).2)) im_retv
      | _ => cases h
  | _ => cases h
theorem t_retN : SndS N K k fn gl ex P .retN := by
  refine .ofPS fun {X W sc} c w st h => ?_
  cases st with
  | Return v p =>
    cases v with
    | some _ => cases h
    | none =>
      refine PS.imp ps_retN fun D σ H q => ?_
      obtain ⟨F, δ, g, s, sr, hp, q⟩ := q
      exact q .non F H [] (.ofGrow (Grow.refl s) fun _ _ z => nomatch z) .non
  | _ => cases h
theorem t_brk : SndS N K k fn gl ex P .brk := by
  refine .ofPS fun {X W sc} c w st h => ?_
  cases st with
  | Break p =>
    refine PS.imp ps_break fun D σ H q => ?_
    obtain ⟨F, δ, g, s, sr, hp, q⟩ := q
    exact q F σ H g (.refl s) sr hp
  | _ => cases h
theorem t_cont : SndS N K k fn gl ex P .cont := by
  refine .ofPS fun {X W sc} c w st h => ?_
  cases st with
  | Continue p =>
    refine PS.imp ps_continue fun D σ H q => ?_
    obtain ⟨F, δ, g, s, sr, hp, q⟩ := q
    exact q F σ H g (.refl s) sr hp
  | _ => cases h
theorem t_drop (hK : K.exc = none) {e : E} : SndS N K k fn gl ex P (.drop e) := by
  refine .ofPS fun {X W sc} c w st h => ?_
  cases st with
  | Expr x p =>
    obtain ⟨h1, h2⟩ := and_t h
    exact PS.imp (ps_expr ((snd hK e).pe c x h1).1 (lc_of h2)) im_drop
  | _ => cases h
theorem rse_of {c : Str} {a b : Option Expr} (h : rseB c a b = true) : b = none ∧ ∃ px m jj p3 p2, a = some (.Call (.Name c px) [.Constant (.str m) jj p3] [] p2) := by
  unfold rseB at h
  split at h
  · have e := of_decide_eq_true h
    subst e
    exact ⟨rfl, _, _, _, _, _, rfl⟩
  · cases h
theorem t_rse (hK : K.exc = none) {y : Str} : SndS N K k fn gl ex P (.rse y) := by
  refine .ofPS fun {X W sc} c w st h => ?_
  cases st with
  | Raise a b p =>
    obtain ⟨h1, h2⟩ := and_t h
    obtain ⟨rfl, px, m, jj, p3, p2, rfl⟩ := rse_of h1
    by_cases he : ex.rs.contains y = true
    · have he2 : K.xs.rs.contains y = true := by rw [w.exs]; exact he
      obtain ⟨C, hC⟩ := c.g.has y (.inl he2)
      obtain ⟨g1, g2, g3, g4, g5⟩ := c.g.cls y C hC he2
      rw [← c.kfr] at g2 g3 g4 g5
      refine PS.imp (L2N.ps_raise (c.calm hK) c.tk (L2N.pmk_own PySem.F.excBase_ValueError g2 g1 g3 (raises_own g4 g5) (c.glo h2).1 (c.glo h2).2.1)) fun D σ H q => ?_
      obtain ⟨F, δ, g, s, sr, hp, q⟩ := q
      have q : RestS K W P F H g (if ex.rs.contains y then .exc y [] δ else .stuck) D := q
      rw [if_pos he] at q
      exact q C none F σ H g hC (.refl s) sr hp ⟨rfl, rfl⟩
    · refine ⟨fun pins s σ H D I q => ?_⟩
      obtain ⟨F, δ, g, s, sr, hp, q⟩ := q
      have q : RestS K W P F H g (if ex.rs.contains y then .exc y [] δ else .stuck) D := q
      rw [if_neg he] at q
      exact q.elim
  | _ => cases h
/-- frozen at a path -/
theorem im_frzp {W : WX} {i : Nat} {js : List Nat} {f : List PX.D → Out} : ∀ D σ H, tS K W P (fun δ => (match δ[i]? with | some d => (match frzpD js d with | some d' => Out.nx (δ.set i d') | none => .stuck) | none => .stuck).thn f) D σ H → tS K W P f D σ H := fun D σ H q => by
  obtain ⟨F, δ, g, s, sr, hp, q⟩ := q
  have q : RestS K W P F H g ((match δ[i]? with | some d => (match frzpD js d with | some d' => Out.nx (δ.set i d') | none => .stuck) | none => .stuck).thn f) D := q
  split at q
  rotate_left
  · exact q.elim
  rename_i d e
  cases ef : frzpD js d with
  | none => rw [ef] at q; exact q.elim
  | some d' =>
    rw [ef] at q
    obtain ⟨b, eb, rfl⟩ := Option.map_eq_some_iff.mp ef
    have q : RestS K W P F H g (f (δ.set i (setP d js b.frz))) D := q
    by_cases nd : d = .dead
    · subst nd
      cases js with
      | cons j js => cases eb
      | nil =>
        cases eb
        have : δ.set i (setP .dead [] PX.D.dead.frz) = δ := by
          refine List.ext_getElem? fun j => ?_
          by_cases ej : i = j
          · subst ej
            rw [List.getElem?_set_self (List.getElem?_eq_some_iff.mp e).1, e]
            rfl
          · rw [List.getElem?_set_ne ej]
        rw [this] at q
        exact ⟨F, δ, g, s, sr, hp, q⟩
    obtain ⟨v, ev, r⟩ := sr.rel i d e nd
    obtain ⟨v1, f1, a1, r1, sub, rb⟩ := R.focus r eb
    have hF1 : ∀ p, p ∈ f1 → F p = none := fun p hp => (r1.there p hp).1
    have ff : Same F (fun p => if p ∈ f1 then H p else F p) := fun p o e => by
      have : p ∉ f1 := fun z => by rw [hF1 p z] at e; cases e
      exact (if_neg this).trans e
    have fh : Same (fun p => if p ∈ f1 then H p else F p) H := fun p o e => by
      by_cases z : p ∈ f1
      · exact (if_pos z).symm.trans e
      · exact s p o ((if_neg z).symm.trans e)
    obtain ⟨f', k3, k4⟩ := rb (fun p => if p ∈ f1 then H p else F p) H b.frz [] ff (fun _ _ z => z) (fun p hp n => ⟨rfl, (if_neg n).trans (sr.own i p hp).1⟩) (r1.freeze ff fun p hp => if_pos hp) (fun _ z => nomatch z)
    have k5 : ∀ p ∈ f', p ∈ g i ∧ p ∉ f1 := fun p hp => by
      rcases k4 p hp with z | z
      · exact z
      · cases z
    -- the other slots' boxes are no part of it
    have sr1 : SR K (fun p => if p ∈ f1 then H p else F p) H σ (δ.set i .dead) (gset g i []) := (sr.kill i).moved ff (fun _ _ z => z) fun j p hj => by
      by_cases ej : j = i
      · rw [ej, gset_same] at hj; cases hj
      · rw [gset_ne ej] at hj
        exact ⟨rfl, (if_neg fun z => sr.dis i j (fun z => ej z.symm) p (sub p z) hj).trans (sr.own j p hj).1⟩
    have sr2 := sr1.upd (i := i) (d' := setP d js b.frz) (fp' := f') (H' := H) ev k3 (fun _ _ z => z) (fun _ _ _ _ => rfl) fun p hp j hj => by
      rw [gset_ne hj]
      exact sr.dis i j (fun z => hj z.symm) p (k5 p hp).1
    rw [List.set_set] at sr2
    refine ⟨_, _, _, fh, sr2, hp, RestS.move (o := f (δ.set i (setP d js b.frz))) q ⟨ff, fh, fun p _ o e => e, fun p h _ => if_neg fun z => h i (sub p z), fun j p hj => ?_⟩⟩
    by_cases ej : j = i
    · rw [ej, gset_same] at hj
      exact .inl ⟨i, (k5 p hj).1⟩
    · rw [gset_ne ej, gset_ne ej] at hj
      exact .inl ⟨j, hj⟩
theorem t_frzp {i : Nat} {js : List Nat} : SndS N K k fn gl ex P (.frzp i js) := ⟨fun _ _ _ h => (by cases h), fun _ _ _ h => (by cases h)⟩
theorem t_tryR {b : S} {cs : List Str} {y : Str} : SndS N K k fn gl ex P (.tryR b cs y) := .ofPS fun {X W sc} c w st h => by cases st <;> cases h
theorem im_retx {W : WX} {m : List PX.D → Res PX.D} {va : Bool} : ∀ D σ H, tS K W P (fun δ => ((m δ).bind (vlD va)).out δ fun d => .rtx d δ) D σ H → tRet (tE K W m va) D σ H := fun D σ H q => by
  obtain ⟨F, δ, g, s, sr, hp, q⟩ := q
  refine ⟨F, δ, g, s, sr, (RestS.vl sr hp q).mono fun y H1 q => ?_⟩
  obtain ⟨F1, x, fp, gr, r, n, q⟩ := q
  exact q y F1 σ H1 g fp (.same gr) (sr.grow gr) hp r fun p hq => ⟨sr.fresh (n p hq), .inr (n p hq)⟩
theorem t_retx {e : E} (ie : Snd N K k fn gl e) : SndS N K k fn gl ex P (.retx e) := by
  refine .ofPS fun {X W sc} c w st h => ?_
  cases st with
  | Return v p =>
    cases v with
    | none => cases h
    | some x => exact PS.imp (ps_ret (ie.pe c x h).1) im_retx
  | _ => cases h
theorem t_xret (hK : K.exc = none) {x : PX.X} : SndS N K k fn gl ex P (.xret x) := by
  refine .ofPS fun {X W sc} c w st h => ?_
  cases st with
  | Return v p =>
    cases v with
    | none => cases h
    | some v =>
      refine PS.imp (ps_ret (sndX (W := W) hK c x v h)) fun D σ H q => ?_
      obtain ⟨F, δ, g, s, sr, hp, q⟩ := q
      have q : RestS K W P F H g ((evx fn gl x δ).out fun d δ => .rtx d δ) D := q
      refine ⟨F, δ, g, s, sr, (RestX.out (σ := σ) hp q).mono fun v H1 q => ?_⟩
      obtain ⟨F1, g1, d, fp, δ1, t, sr1, r, n, q⟩ := q
      exact q v F1 σ H1 g1 fp t sr1 hp r n
  | _ => cases h
theorem t_rety (hK : K.exc = none) {x : PX.X} : SndS N K k fn gl ex P (.rety x) := by
  refine .ofPS fun {X W sc} c w st h => ?_
  cases st with
  | Return v p =>
    cases v with
    | none => cases h
    | some v =>
      refine PS.imp (ps_ret (sndX (W := W) hK c x v h)) fun D σ H q => ?_
      obtain ⟨F, δ, g, s, sr, hp, q⟩ := q
      have q : RestS K W P F H g ((evx fn gl x δ).out fun d _ => .rt d) D := q
      refine ⟨F, δ, g, s, sr, (RestX.out (σ := σ) hp q).mono fun v H1 q => ?_⟩
      obtain ⟨F1, g1, d, fp, δ1, t, sr1, r, n, q⟩ := q
      exact q v F1 H1 fp (t.keep fun i p hq => .inr (n p hq).2) r
  | _ => cases h
theorem RestY.ofS {W : WX} {σ : L2.St} {F H : Hp} {g : Nat → List Addr} {D : Ends} {r : RX} {a b : List PX.D → Out} (hp : Pn P σ) (q : RestS K W P F H g (r.out fun d δ' => cndO d (a δ') (b δ')) D) :
    RestY K W σ F H g r fun c H1 => ∃ F1 g1 δ1, Tr F H g F1 H1 g1 ∧ SR K F1 H1 σ δ1 g1 ∧ RestS K W P F1 H1 g1 (if c then a δ1 else b δ1) D := by
  cases r with
  | ok d δ' =>
    cases d with
    | bl c =>
      intro F' H' g' t s
      cases c with
      | true => exact ⟨F', g', δ', t, s, RestS.move (o := a δ') q t⟩
      | false => exact ⟨F', g', δ', t, s, RestS.move (o := b δ') q t⟩
    | _ => exact q.elim
  | exc c fs δ' => exact fun C d F' H' g' e t sr q2 => q C d F' σ H' g' e t sr hp q2
  | stuck => exact q
theorem t_ify (hK : K.exc = none) {y : PX.Y} {a b : S} (ia : SndS N K k fn gl ex P a) (ib : SndS N K k fn gl ex P b) : SndS N K k fn gl ex P (.ify y a b) := by
  refine .ofPS fun {X W sc} c w st h => ?_
  cases st with
  | If x ss ts p =>
    obtain ⟨h1, h2⟩ := and_t h
    obtain ⟨h2, h3⟩ := and_t h2
    refine PS.imp (ps_if ((sndY (W := W) hK c y).1 x h1) (ia.pss c w ss h2) (ib.pss c w ts h3)) fun D σ H q => ?_
    obtain ⟨F, δ, g, s, sr, hp, q⟩ := q
    refine ⟨F, δ, g, s, sr, (RestY.ofS hp q).mono fun cc H1 q => ?_⟩
    obtain ⟨F1, g1, δ1, t, s1, q⟩ := q
    cases cc with
    | true => exact ⟨F1, δ1, g1, t.fh, s1, hp, q⟩
    | false => exact ⟨F1, δ1, g1, t.fh, s1, hp, q⟩
  | _ => cases h
theorem t_retxN : SndS N K k fn gl ex P .retxN := by
  refine .ofPS fun {X W sc} c w st h => ?_
  cases st with
  | Return v p =>
    cases v with
    | some _ => cases h
    | none =>
      refine PS.imp ps_retN fun D σ H q => ?_
      obtain ⟨F, δ, g, s, sr, hp, q⟩ := q
      exact q .non F σ H g [] (.refl s) sr hp .non fun _ z => nomatch z
  | _ => cases h
theorem im_retxm {W : WX} {x : Str} {j : Nat} : ∀ D σ H, tS K W P (exec fn gl ex (.retxm x j)) D σ H → tRet (tTup (tCons (tC (.str x)) (tCons (tVar j) tNil))) D σ H := fun D σ H q => by
  obtain ⟨F, δ, g, s, sr, hp, q⟩ := q
  have q : RestS K W P F H g (match δ[j]? with
    | some .dead => .stuck
    | some d => .rtx (.tup [.str x, d]) (δ.set j .dead)
    | none => .stuck) D := q
  split at q
  · exact q.elim
  rotate_left
  · exact q.elim
  rename_i d hd e
  obtain ⟨v, ev, r⟩ := sr.rel j d e fun z => hd (by rw [z])
  refine ⟨v, ev, by show 2 ≤ sizeLine; decide, fun p np => ?_⟩
  have sm : Same H (L2.upd H p (.tup [.str x, v])) := same_new np
  have gr : Grow F H F (L2.upd H p (.tup [.str x, v])) := ⟨Same.refl F, s.trans sm, sm, fun _ _ => rfl⟩
  refine q (.ref p) F σ _ (gset g j []) ([] ++ (g j ++ [])) (.ofGrow gr fun i q hq => ?_) ((sr.grow gr).kill j) hp (.tup upd_same (.cons (.str x) (.cons (gr.r r) .nil fun _ _ z => nomatch z) fun _ z => nomatch z)) fun q hq => ?_
  · by_cases ei : i = j
    · rw [ei, gset_same] at hq; cases hq
    · rw [gset_ne ei] at hq; exact .inl ⟨i, hq⟩
  · rw [List.nil_append, List.append_nil] at hq
    refine ⟨fun i hi => ?_, .inl ⟨j, hq⟩⟩
    by_cases ei : i = j
    · rw [ei, gset_same] at hi; cases hi
    · rw [gset_ne ei] at hi; exact sr.dis j i (fun z => ei z.symm) q hq hi
theorem im_retm {W : WX} {x : Str} {j : Nat} : ∀ D σ H, tS K W P (exec fn gl ex (.retm x j)) D σ H → tRet (tTup (tCons (tC (.str x)) (tCons (tVar j) tNil))) D σ H := fun D σ H q => by
  obtain ⟨F, δ, g, s, sr, hp, q⟩ := q
  have q : RestS K W P F H g (match δ[j]? with
    | some .dead => .stuck
    | some d => .rt (.tup [.str x, d])
    | none => .stuck) D := q
  split at q
  · exact q.elim
  rotate_left
  · exact q.elim
  rename_i d hd e
  obtain ⟨v, ev, r⟩ := sr.rel j d e fun z => hd (by rw [z])
  refine ⟨v, ev, by show 2 ≤ sizeLine; decide, fun p np => ?_⟩
  have sm : Same H (L2.upd H p (.tup [.str x, v])) := same_new np
  have gr : Grow F H F (L2.upd H p (.tup [.str x, v])) := ⟨Same.refl F, s.trans sm, sm, fun _ _ => rfl⟩
  refine q (.ref p) F _ ([] ++ (g j ++ [])) (.ofGrow gr fun i q hq => ?_) (.tup upd_same (.cons (.str x) (.cons (gr.r r) .nil fun _ _ z => nomatch z) fun _ z => nomatch z))
  rw [List.nil_append, List.append_nil] at hq
  exact .inl ⟨j, hq⟩
theorem t_retxm {x : Str} {j : Nat} : SndS N K k fn gl ex P (.retxm x j) := by
  refine .ofPS fun {X W sc} c w st h => ?_
  unfold chS at h
  split at h <;> first | (rename_i z; cases z; done) | skip
  all_goals first | (cases h; done) | skip
  rename_i z
  cases z
  obtain ⟨h1, h2⟩ := and_t h
  have e1 := of_decide_eq_true h1
  subst e1
  exact PS.imp (ps_ret (pe_tup (pa_cons pe_str (pa_cons (nm_pe c h2) pa_nil rfl) rfl))) im_retxm
theorem t_retm {x : Str} {j : Nat} : SndS N K k fn gl ex P (.retm x j) := by
  refine .ofPS fun {X W sc} c w st h => ?_
  unfold chS at h
  split at h <;> first | (rename_i z; cases z; done) | skip
  all_goals first | (cases h; done) | skip
  rename_i z
  cases z
  obtain ⟨h1, h2⟩ := and_t h
  have e1 := of_decide_eq_true h1
  subst e1
  exact PS.imp (ps_ret (pe_tup (pa_cons pe_str (pa_cons (nm_pe c h2) pa_nil rfl) rfl))) im_retm
theorem pss_seq {a b : S} (ia : SndS N K k fn gl ex P a) (ib : SndS N K k fn gl ex P b) {X : Cx} {W : WX} {sc : Scope} (c : Cok X W N sc K k fn gl) (w : Sok X K sc ex) {st : Stmt} {sts : List Stmt} (h : (chS N sc a st && chSs N sc b sts) = true) :
    PSs X (st :: sts) (tS K W P (exec fn gl ex (.seq a b))) := by
  obtain ⟨h1, h2⟩ := and_t h
  refine PSs.imp (pss_cons (ia.ps c w st h1) (ib.pss c w sts h2)) fun D σ H q => ?_
  obtain ⟨F, δ, g, s, sr, hp, q⟩ := q
  exact ⟨F, δ, g, s, sr, hp, RestS.thn q⟩
theorem t_seq {a b : S} (ia : SndS N K k fn gl ex P a) (ib : SndS N K k fn gl ex P b) : SndS N K k fn gl ex P (.seq a b) := by
  refine ⟨fun _ _ _ h => (by cases h), fun {X W sc} c w sts h => ?_⟩
  cases a with
  | frz i => exact PSs.imp (ib.pss c w sts h) im_frz
  | kill i => exact PSs.imp (ib.pss c w sts h) im_kill
  | frzp i js => exact PSs.imp (ib.pss c w sts h) im_frzp
  | _ =>
    cases sts with
    | nil => cases h
    | cons st sts => exact pss_seq ia ib c w h
theorem t_kill {i : Nat} : SndS N K k fn gl ex P (.kill i) := ⟨fun _ _ _ h => (by cases h), fun _ _ _ h => (by cases h)⟩
theorem t_frz {i : Nat} : SndS N K k fn gl ex P (.frz i) := ⟨fun _ _ _ h => (by cases h), fun _ _ _ h => (by cases h)⟩
/-! ### try -/
mutual
theorem R.toHot (hK : K.exc = none) {x1 : Addr} {c0 : Str} {F H : Hp} : ∀ {v : V} {d : D} {fp : List Addr}, R K F H v d fp → R (K.hot x1 c0) F H v d fp
  | _, _, _, .dead => .dead
  | _, _, _, .non => .non
  | _, _, _, .bl b => .bl b
  | _, _, _, .int i => .int i
  | _, _, _, .str x => .str x
  | _, _, _, .scr ns h => .scr ns h
  | _, _, _, .tup h hs => .tup h (Rs.toHot hK hs)
  | _, _, _, .ctup xs h hd => .ctup xs h hd
  | _, _, _, .exv h => by rw [hK] at h; cases h
  | _, _, _, .frz h hs => .frz (by
      obtain ⟨o, h1, h2⟩ := h
      exact ⟨o, h1, by cases h2 <;> first | exact .lst _ | exact .dk _ | exact .dt _ | exact .ob _ (by assumption) (by assumption) (by assumption)⟩) (Rs.toHot hK hs)
  | _, _, _, .own h hk n hs na => .own h (by cases hk <;> first | exact .lst _ | exact .dk _ | exact .dt _ | exact .ob _ (by assumption) (by assumption) (by assumption)) n (Rs.toHot hK hs) na
theorem Rs.toHot (hK : K.exc = none) {x1 : Addr} {c0 : Str} {F H : Hp} : ∀ {v : List V} {d : List D} {fp : List Addr}, Rs K F H v d fp → Rs (K.hot x1 c0) F H v d fp
  | _, _, _, .nil => .nil
  | _, _, _, .cons h hs n => .cons (R.toHot hK h) (Rs.toHot hK hs) n
end
mutual
theorem R.ofHot {x1 : Addr} {c0 : Str} {F H : Hp} : ∀ {v : V} {d : D} {fp : List Addr}, R (K.hot x1 c0) F H v d fp → d.cl = true → R K F H v d fp
  | _, _, _, .dead, _ => .dead
  | _, _, _, .non, _ => .non
  | _, _, _, .bl b, _ => .bl b
  | _, _, _, .int i, _ => .int i
  | _, _, _, .str x, _ => .str x
  | _, _, _, .scr ns h, _ => .scr ns h
  | _, _, _, .tup h hs, e => .tup h (Rs.ofHot hs (by unfold D.cl at e; exact e))
  | _, _, _, .ctup xs h hd, _ => .ctup xs h hd
  | _, _, _, .exv h, e => by unfold D.cl at e; cases e
  | _, _, _, .frz h hs, e => .frz (by
      obtain ⟨o, h1, h2⟩ := h
      exact ⟨o, h1, by cases h2 <;> first | exact .lst _ | exact .dk _ | exact .dt _ | exact .ob _ (by assumption) (by assumption) (by assumption)⟩) (Rs.ofHot hs (by unfold D.cl at e; exact e))
  | _, _, _, .own h hk n hs na, e => .own h (by cases hk <;> first | exact .lst _ | exact .dk _ | exact .dt _ | exact .ob _ (by assumption) (by assumption) (by assumption)) n (Rs.ofHot hs (by unfold D.cl at e; exact e)) na
theorem Rs.ofHot {x1 : Addr} {c0 : Str} {F H : Hp} : ∀ {v : List V} {d : List D} {fp : List Addr}, Rs (K.hot x1 c0) F H v d fp → D.cls d = true → Rs K F H v d fp
  | _, _, _, .nil, _ => .nil
  | _, _, _, .cons h hs n, e => by
    unfold D.cls at e
    obtain ⟨e1, e2⟩ := and_t e
    exact .cons (R.ofHot h e1) (Rs.ofHot hs e2) n
end
theorem HK.toHot {x1 : Addr} {c0 : Str} {kd : Kind} {o : HO} {vs : List V} (h : HK K kd o vs) : HK (K.hot x1 c0) kd o vs := by
  cases h <;> first | exact .lst _ | exact .dk _ | exact .dt _ | exact .ob _ (by assumption) (by assumption) (by assumption)
theorem SR.toHot (hK : K.exc = none) {x1 : Addr} {c0 : Str} {F H : Hp} {σ : L2.St} {δ : List D} {g : Nat → List Addr} (s : SR K F H σ δ g) : SR (K.hot x1 c0) F H σ δ g :=
  ⟨s.len, fun i d e n => by
    obtain ⟨v, e1, r⟩ := s.rel i d e n
    exact ⟨v, e1, r.toHot hK⟩, s.dis, fun i p hp => by
    obtain ⟨e, kd, o, vs, e2, hk⟩ := s.own i p hp
    exact ⟨e, kd, o, vs, e2, hk.toHot⟩⟩
theorem Gok.toHot {P : Program} {w : World} {mg : Str → Option Value} {base : Heap} {x1 : Addr} {c0 : Str} (G : Gok P w K mg base k fn gl) : Gok P w (K.hot x1 c0) mg base k fn gl where
  fns := fun e => by cases e
  mts := fun e => by cases e
  mtx := fun e => by cases e
  fnx := fun e => by cases e
  mks := fun e => by cases e
  noat := G.noat
  fnh := G.fnh
  gls := G.gls
  free := G.free
  has := G.has
  cls := fun c C h1 h2 => ⟨(G.cls c C h1 h2).at_, (G.cls c C h1 h2).ex, (G.cls c C h1 h2).kp, (G.cls c C h1 h2).sb, (G.cls c C h1 h2).ty⟩
  emg := G.emg
  exm := G.exm
  kit := fun h => ⟨(G.kit h).1, fun c C h1 h2 => ⟨((G.kit h).2 c C h1 h2).ec, ((G.kit h).2 c C h1 h2).own, ((G.kit h).2 c C h1 h2).ve⟩⟩
theorem Cok.tr {X : Cx} {W : WX} {sc : Scope} (hK : K.exc = none) (c : Cok X W N sc K k fn gl) {W' : WX} {pn : List (Addr × Obj)} {xe : Value → Shared → Prop} (tk : L2N.Takes (X.tr pn xe) W') : Cok (X.tr pn xe) W' N sc K k fn gl :=
  ⟨c.hN, c.nd, c.hsc, c.calm, (fun x1 c0 e => by rw [hK] at e; cases e), tk, c.nh, c.room, c.kfr, c.g⟩
theorem Sok.tr {X : Cx} {sc : Scope} (w : Sok X K sc ex) {pn : List (Addr × Obj)} {xe : Value → Shared → Prop} (own : PassesOwn (model X.prog X.w) X.A X.env xe) : Sok (X.tr pn xe) K sc ex :=
  ⟨own, w.wr, w.kind, w.exs, w.stk, w.frm⟩
/-- the context of the suite -/
theorem Cok.suite {X : Cx} {W : WX} {sc : Scope} (c : Cok X W N sc K k fn gl) {a C : Addr} {oe : Obj} {c0 : Str} {pn : List (Addr × Obj)} (hcx : K.xs.cx = true) (hrs : K.xs.rs.contains c0 = true) (hca : K.ca c0 = some C) (hz : L2N.Zn (.ref C) none oe) (hf : ∃ vs, oe.data = .fields vs) :
    Cok (X.suite a ((a, oe) :: pn)) W0 N sc (K.hot a c0) k fn gl where
  hN := c.hN
  nd := c.nd
  hsc := c.hsc
  calm := fun e => by cases e
  hot := fun x1 c1 e => by
    cases e
    obtain ⟨vs, hv⟩ := hf
    exact ⟨hcx, hrs, oe, C, hca, HotQ.pn rfl ⟨vs, hv, hz.2.2 vs hv⟩ List.mem_cons_self, hz.1, hz.2.1⟩
  tk := takes0N
  nh := fun e => by cases e
  room := ⟨c.room.dp, c.room.un⟩
  kfr := c.kfr
  g := c.g.toHot
theorem Names_of {X : Cx} {W : WX} {sc : Scope} (c : Cok X W N sc K k fn gl) {x : Str} {U : Addr} (h : glB sc x = true) (m : X.mg x = some (.ref U)) : Names X x (.ref U) := ⟨(c.glo h).1, (c.glo h).2.1, .inl m⟩
theorem mg_of_es {X : Cx} {W : WX} {sc : Scope} (c : Cok X W N sc K k fn gl) (w : Sok X K sc ex) {x : Str} (h : ex.es.contains x = true) : ∃ U, K.ca x = some U ∧ X.mg x = some (.ref U) ∧ ∀ c' C, ex.rs.contains c' = true → K.ca c' = some C → PySem.W.exmOne K.fr (.ref C) (.ref U) = some (subX c' x) := by
  have he : K.xs.es.contains x = true := by rw [w.exs]; exact h
  obtain ⟨U, hU⟩ := c.g.has x (.inr he)
  refine ⟨U, hU, c.g.emg x U hU he, fun c' C h1 h2 => c.g.exm c' C x U h2 hU (by rw [w.exs]; exact h1) he⟩
theorem ps_no {X : Cx} {st : Stmt} : PS X st (fun _ _ _ => False) := ⟨fun _ _ _ _ _ _ h => h.elim⟩
theorem tryO_nx {m : Out} {c : Str} {su : Str → List D → Out} {W W' : WX} {F H : Hp} {g : Nat → List Addr} {D : Ends} (q : RestS K W P F H g (tryO ex c su m) D)
    (k : ∀ c' δ' , m = .exc c' [] δ' → ex.rs.contains c' = true → RestS K W P F H g (if subX c' c then su c' δ' else .exc c' [] δ') D → RestS K W' P F H g (.exc c' [] δ') D) : RestS K W' P F H g m D := by
  cases m with
  | exc c' fs δ' =>
    have q : RestS K W P F H g (if ex.rs.contains c' && fs.isEmpty then (if subX c' c then su c' δ' else .exc c' fs δ') else .stuck) D := q
    split at q
    · rename_i h
      obtain ⟨h1, h2⟩ := and_t h
      have h2 : fs = [] := by simpa using h2
      subst h2
      exact k c' δ' rfl h1 q
    · exact q.elim
  | nx δ => exact q
  | bk δ => exact q
  | ct δ => exact q
  | rt d => exact q
  | rtx d δ => exact q
  | stuck => exact q
/-- try: b except c as N[i]: return e -/
theorem t_try (hK : K.exc = none) {b : S} {y : Str} {i : Nat} {e : E} (ib : SndS N K k fn gl ex P b) : SndS N K k fn gl ex P (.try_ b y i e) := by
  refine .ofPS fun {X W sc} c w st h => ?_
  unfold chS at h
  split at h <;> first | (rename_i e; cases e; done) | skip
  all_goals first | (cases h; done) | skip
  rename_i b0 c0 i0 e0 body x np n vx rp hp pos ee
  cases ee
  obtain ⟨h1, h⟩ := and_t h
  obtain ⟨h2, h⟩ := and_t h
  obtain ⟨h3, h⟩ := and_t h
  obtain ⟨h4, h⟩ := and_t h
  obtain ⟨h5, h⟩ := and_t h
  obtain ⟨h6, h7⟩ := and_t h
  have e1 : y = x := of_decide_eq_true h1
  subst e1
  have h3 : N[i]? = some n := of_decide_eq_true h3
  have h4 : sc.names.lookup n = some .local := of_decide_eq_true h4
  by_cases hes : (ex.es.contains y && ex.cx) = true
  · obtain ⟨he1, he2⟩ := and_t hes
    · obtain ⟨U, hU, mU, exm⟩ := mg_of_es c w he1
      have hcx : K.xs.cx = true := by rw [w.exs]; exact he2
      let ts : Addr → Value → Option Addr → TS := fun a cls d D σ H => ∃ c' C, cls = .ref C ∧ K.ca c' = some C ∧ K.xs.rs.contains c' = true ∧ d = none ∧ tRet (tE (K.hot a c') W0 (ev fn gl e) e.view) D σ H
      refine PS.imp (L2N.ps_try_as (i := i) (ts := ts) w.stk w.frm (by rw [c.hN]; exact c.nd) (c.ix h3) (by show X.env.scope.names.lookup n = _; rw [c.hsc]; exact h4) (Names_of c h2 mU) c.tk (fun W' pn xe tk po => ib.pss (c.tr hK tk) (w.tr po) body h5) (fun a oe cls d pn hz hf => ?_)) fun D σ H q => ?_
      · refine ⟨fun pins s σ H D I q => ?_⟩
        obtain ⟨c', C, rfl, hca, hrs, rfl, q⟩ := q
        exact (pss_one (ps_ret ((sndH (K := K.hot a c') rfl e h6).pe (c.suite hcx hrs hca hz hf) _ h7).1)).run pins s σ H D I q
      · obtain ⟨F, δ, g, s, sr, hp, q⟩ := q
        have q : RestS K W P F H g (if ex.es.contains y && ex.cx then tryO ex y (fun c' δ => hotR (evl fn gl e (δ.set i (.exv c' [])))) (exec fn gl ex b δ) else .stuck) D := q
        rw [if_pos hes] at q
        refine ⟨F, δ, g, s, sr, hp, tryO_nx q fun c' δ' em hrs q => ?_⟩
        intro C d F' σ' H' g' hC t sr' hp' xd
        have hrs2 : K.xs.rs.contains c' = true := by rw [w.exs]; exact hrs
        refine ⟨subX c' y, by rw [c.kfr]; exact exm c' C hrs hC, fun es a na => ?_, fun es => ?_⟩
        · rw [if_pos es] at q
          refine ⟨c', C, rfl, hC, hrs2, xd.2, F', δ'.set i (.exv c' []), gset g' i [], t.fh, (sr'.toHot hK).set (.exv rfl) (fun _ z => nomatch z), ?_⟩
          have q : RestS K W P F H g (hotR ((ev fn gl e (δ'.set i (.exv c' []))).bind (vlD e.view))) D := q
          cases em2 : ev fn gl e (δ'.set i (.exv c' [])) with
          | stuck => rw [em2] at q; exact q.elim
          | exc c2 f2 => rw [em2] at q; exact q.elim
          | ok d0 =>
            rw [em2] at q
            have q : RestS K W P F H g (hotR (vlD e.view d0)) D := q
            cases ev2 : vlD e.view d0 with
            | stuck => rw [ev2] at q; exact q.elim
            | exc c2 f2 => rw [ev2] at q; exact q.elim
            | ok d1 =>
              obtain ⟨rfl, hv⟩ := vl_ok ev2
              rw [ev2] at q
              have q : RestS K W P F H g (if d1.cl then .rt d1 else .stuck) D := q
              split at q
              · rename_i hcl
                intro v F2 H2 fp gr r n
                have nn := vl_fresh hv r n
                exact q v F2 H2 fp (t.trans (.ofGrow gr fun j p hp => .inr (nn p hp))) (r.ofHot hcl)
              · exact q.elim
        · rw [es] at q
          exact q C d F' σ' H' g' hC t sr' hp' xd
  · refine PS.imp ps_no fun D σ H q => ?_
    obtain ⟨F, δ, g, s, sr, hp, q⟩ := q
    have q : RestS K W P F H g (if ex.es.contains y && ex.cx then tryO ex y (fun c' δ => hotR (evl fn gl e (δ.set i (.exv c' [])))) (exec fn gl ex b δ) else .stuck) D := q
    rw [if_neg hes] at q
    exact q
/-- try: b except c: return None -/
theorem t_tryN (hK : K.exc = none) {b : S} {y : Str} (ib : SndS N K k fn gl ex P b) : SndS N K k fn gl ex P (.tryN b y) := by
  refine .ofPS fun {X W sc} c w st h => ?_
  unfold chS at h
  split at h <;> first | (rename_i e; cases e; done) | skip
  all_goals first | (cases h; done) | skip
  rename_i b0 c0 body x np jj p1 rp hp pos ee
  cases ee
  obtain ⟨h1, h⟩ := and_t h
  obtain ⟨h2, h5⟩ := and_t h
  have e1 : y = x := of_decide_eq_true h1
  subst e1
  by_cases he1 : ex.es.contains y = true
  · obtain ⟨U, hU, mU, exm⟩ := mg_of_es c w he1
    let ts : Addr → Value → Option Addr → TS := fun _ _ _ D σ H => D.rt .non H
    refine PS.imp (L2N.ps_try_many (l := [(.ref U, ts)]) w.stk w.frm c.tk (fun W' pn xe tk po => ib.pss (c.tr hK tk) (w.tr po) body h5) (.cons (Names_of c h2 mU) (fun a oe cls d pn hz hf => pss_one (PS.imp (ps_ret pe_non) fun D σ H q => q)) .nil)) fun D σ H q => ?_
    obtain ⟨F, δ, g, s, sr, hp, q⟩ := q
    have q : RestS K W P F H g (if ex.es.contains y then tryO ex y (fun _ _ => .rt .non) (exec fn gl ex b δ) else .stuck) D := q
    rw [if_pos he1] at q
    refine ⟨F, δ, g, s, sr, hp, tryO_nx q fun c' δ' em hrs q => ?_⟩
    intro C d F' σ' H' g' hC t sr' hp' xd
    refine ⟨subX c' y, by rw [c.kfr]; exact exm c' C hrs hC, fun es a na => ?_, fun es => ?_⟩
    · rw [if_pos es] at q
      exact q .non F' H' [] (t.trans (.ofGrow (Grow.refl t.fh) fun _ _ z => nomatch z)) .non
    · rw [es] at q
      exact q C d F' σ' H' g' hC t sr' hp' xd
  · refine PS.imp ps_no fun D σ H q => ?_
    obtain ⟨F, δ, g, s, sr, hp, q⟩ := q
    have q : RestS K W P F H g (if ex.es.contains y then tryO ex y (fun _ _ => .rt .non) (exec fn gl ex b δ) else .stuck) D := q
    rw [if_neg he1] at q
    exact q
/-- try: .., nothing is raised in it -/
theorem t_tryZ (hK : K.exc = none) {b : S} (ib : SndS N K k fn gl ex P b) : SndS N K k fn gl ex P (.tryZ b) := by
  refine .ofPS fun {X W sc} c w st h => ?_
  unfold chS at h
  split at h <;> first | (rename_i e; cases e; done) | skip
  all_goals first | (cases h; done) | skip
  rename_i b0 body h0 hs pos ee
  cases ee
  have pb := ib.pss (c.tr hK (pn := X.pn) (xe := fun _ _ => False) takes0N) (w.tr PassesOwn.never) body h
  refine ⟨fun pins s σ H D I q => wpAny_Try_except ?_⟩
  obtain ⟨F, δ, g, sm, sr, hp, q⟩ := q
  have q : RestS K W P F H g (noExc (exec fn gl ex b δ)) D := q
  have I0 : Inv (X.tr X.pn fun _ _ => False) pins σ H s := ⟨I.ok.toTry _ _, I.os, I.bare, I.base, I.loc, I.cell, I.free, I.freeC, I.pin, I.hok, I.len⟩
  refine wpAny_mono (pb.run pins s σ H D I0 ⟨F, δ, g, sm, sr, hp, ?_⟩) (fun f s1 hsp => ?_) (fun _ _ z => z.elim)
  · generalize exec fn gl ex b δ = o at q ⊢
    cases o with
    | exc c' fs δ' => exact q.elim
    | nx δ => exact q
    | bk δ => exact q
    | ct δ => exact q
    | rt d => exact q
    | rtx d δ => exact q
    | stuck => exact q
  · have back : ∀ {σ' : L2.St} {H' : Hp} {s' : Shared}, Inv (X.tr X.pn fun _ _ => False) pins σ' H' s' → Inv X pins σ' H' s' := fun J => ⟨J.ok.ofTry, J.os, J.bare, J.base, J.loc, J.cell, J.free, J.freeC, J.pin, J.hok, J.len⟩
    cases f with
    | next =>
      obtain ⟨σ', H', J, q⟩ := hsp
      exact wpAny_execs_nil ⟨σ', H', back J, q⟩
    | brk =>
      obtain ⟨σ', H', J, q⟩ := hsp
      exact ⟨σ', H', back J, q⟩
    | cont =>
      obtain ⟨σ', H', J, q⟩ := hsp
      exact ⟨σ', H', back J, q⟩
    | ret u =>
      obtain ⟨v, σ', H', J, r, q⟩ := hsp
      exact ⟨v, σ', H', back J, r, q⟩
/-- try: b except c as N[i]: return e, in a def that changes what it is handed -/
theorem t_tryx (hK : K.exc = none) {b : S} {y : Str} {i : Nat} {e : E} (hi : P i = none) (ib : SndS N K k fn gl ex P b) : SndS N K k fn gl ex P (.tryx b y i e) := by
  refine .ofPS fun {X W sc} c w st h => ?_
  unfold chS at h
  split at h <;> first | (rename_i e; cases e; done) | skip
  all_goals first | (cases h; done) | skip
  rename_i b0 c0 i0 e0 body x np n vx rp hp pos ee
  cases ee
  obtain ⟨h1, h⟩ := and_t h
  obtain ⟨h2, h⟩ := and_t h
  obtain ⟨h3, h⟩ := and_t h
  obtain ⟨h4, h⟩ := and_t h
  obtain ⟨h5, h⟩ := and_t h
  obtain ⟨h6, h7⟩ := and_t h
  have e1 : y = x := of_decide_eq_true h1
  subst e1
  have h3 : N[i]? = some n := of_decide_eq_true h3
  have h4 : sc.names.lookup n = some .local := of_decide_eq_true h4
  by_cases hes : (ex.es.contains y && ex.cx) = true
  · obtain ⟨he1, he2⟩ := and_t hes
    · obtain ⟨U, hU, mU, exm⟩ := mg_of_es c w he1
      have hcx : K.xs.cx = true := by rw [w.exs]; exact he2
      let ts : Addr → Value → Option Addr → TS := fun a cls d D σ H => ∃ c' C, cls = .ref C ∧ K.ca c' = some C ∧ K.xs.rs.contains c' = true ∧ d = none ∧ tRet (tE (K.hot a c') W0 (ev fn gl e) e.view) D σ H
      refine PS.imp (L2N.ps_try_as (i := i) (ts := ts) w.stk w.frm (by rw [c.hN]; exact c.nd) (c.ix h3) (by show X.env.scope.names.lookup n = _; rw [c.hsc]; exact h4) (Names_of c h2 mU) c.tk (fun W' pn xe tk po => ib.pss (c.tr hK tk) (w.tr po) body h5) (fun a oe cls d pn hz hf => ?_)) fun D σ H q => ?_
      · refine ⟨fun pins s σ H D I q => ?_⟩
        obtain ⟨c', C, rfl, hca, hrs, rfl, q⟩ := q
        exact (pss_one (ps_ret ((sndH (K := K.hot a c') rfl e h6).pe (c.suite hcx hrs hca hz hf) _ h7).1)).run pins s σ H D I q
      · obtain ⟨F, δ, g, s, sr, hp, q⟩ := q
        have q : RestS K W P F H g (if ex.es.contains y && ex.cx then tryO ex y (fun c' δ => hotX (δ.set i .dead) (evl fn gl e (δ.set i (.exv c' [])))) (exec fn gl ex b δ) else .stuck) D := q
        rw [if_pos hes] at q
        refine ⟨F, δ, g, s, sr, hp, tryO_nx q fun c' δ' em hrs q => ?_⟩
        intro C d F' σ' H' g' hC t sr' hp' xd
        have hrs2 : K.xs.rs.contains c' = true := by rw [w.exs]; exact hrs
        refine ⟨subX c' y, by rw [c.kfr]; exact exm c' C hrs hC, fun es a na => ?_, fun es => ?_⟩
        · rw [if_pos es] at q
          refine ⟨c', C, rfl, hC, hrs2, xd.2, F', δ'.set i (.exv c' []), gset g' i [], t.fh, (sr'.toHot hK).set (.exv rfl) (fun _ z => nomatch z), ?_⟩
          have q : RestS K W P F H g (hotX (δ'.set i .dead) ((ev fn gl e (δ'.set i (.exv c' []))).bind (vlD e.view))) D := q
          cases em2 : ev fn gl e (δ'.set i (.exv c' [])) with
          | stuck => rw [em2] at q; exact q.elim
          | exc c2 f2 => rw [em2] at q; exact q.elim
          | ok d0 =>
            rw [em2] at q
            have q : RestS K W P F H g (hotX (δ'.set i .dead) (vlD e.view d0)) D := q
            cases ev2 : vlD e.view d0 with
            | stuck => rw [ev2] at q; exact q.elim
            | exc c2 f2 => rw [ev2] at q; exact q.elim
            | ok d1 =>
              obtain ⟨rfl, hv⟩ := vl_ok ev2
              rw [ev2] at q
              have q : RestS K W P F H g (if d1.cl then .rtx d1 (δ'.set i .dead) else .stuck) D := q
              split at q
              · rename_i hcl
                intro v F2 H2 fp gr r n
                have nn := vl_fresh hv r n
                have sk := (sr'.grow gr).kill i
                have gk : ∀ j p, p ∈ gset g' i [] j → p ∈ g' j := fun j p hj => by
                  by_cases ej : j = i
                  · rw [ej, gset_same] at hj; cases hj
                  · rw [gset_ne ej] at hj; exact hj
                have so : SR K F2 H2 (σ'.set i (some (.ref a))) (δ'.set i .dead) (gset g' i []) := by
                  by_cases hlt : i < δ'.length
                  · exact sk.other (List.getElem?_set_self hlt) _
                  · rw [List.set_eq_of_length_le (by have := sr'.len; omega)]
                    exact sk
                refine q v F2 (σ'.set i (some (.ref a))) H2 (gset g' i []) fp (t.trans (.ofGrow gr fun j p hj => .inl ⟨j, gk j p hj⟩)) so (hp'.set hi _) (r.ofHot hcl) fun p hq => ⟨fun j hj => sr'.fresh (nn p hq) j (gk j p hj), t.newer (.inr (nn p hq))⟩
              · exact q.elim
        · rw [es] at q
          exact q C d F' σ' H' g' hC t sr' hp' xd
  · refine PS.imp ps_no fun D σ H q => ?_
    obtain ⟨F, δ, g, s, sr, hp, q⟩ := q
    have q : RestS K W P F H g (if ex.es.contains y && ex.cx then tryO ex y (fun c' δ => hotX (δ.set i .dead) (evl fn gl e (δ.set i (.exv c' [])))) (exec fn gl ex b δ) else .stuck) D := q
    rw [if_neg hes] at q
    exact q
theorem putF_keys {f : Str} {y : V} : ∀ {fs : List (Str × V)}, (putF f y fs).map (·.1) = putNs f (fs.map (·.1))
  | [] => rfl
  | (n, v) :: fs => by
    show ((if n = f then (n, y) :: fs else (n, v) :: putF f y fs).map (·.1)) = if n = f then n :: fs.map (·.1) else n :: putNs f (fs.map (·.1))
    by_cases h : n = f
    · rw [if_pos h, if_pos h]; rfl
    · rw [if_neg h, if_neg h]
      show n :: (putF f y fs).map (·.1) = _
      rw [putF_keys]
theorem Rs.putF {F H : Hp} {f : Str} {y : V} {d : PX.D} {fp : List Addr} (r : R K F H y d fp) : ∀ {fs : List (Str × V)} {ds : List PX.D} {fx : List Addr}, Rs K F H (fs.map (·.2)) ds fx → (∀ p ∈ fp, p ∉ fx) →
    ∃ f', Rs K F H ((L2.putF f y fs).map (·.2)) (putFs f d (fs.map (·.1)) ds) f' ∧ ∀ p ∈ f', p ∈ fx ∨ p ∈ fp
  | [], ds, fx, h, _ => by
    cases h
    exact ⟨fp, Rs.one r, fun p hp => .inr hp⟩
  | (n, v) :: fs, ds, fx, h, dj => by
    cases h with
    | cons r1 rs nn =>
      rename_i d1 ds f1 g1
      show ∃ f', Rs K F H ((if n = f then (n, y) :: fs else (n, v) :: L2.putF f y fs).map (·.2)) (if n = f then d :: ds else d1 :: putFs f d (fs.map (·.1)) ds) f' ∧ _
      by_cases h : n = f
      · rw [if_pos h, if_pos h]
        refine ⟨fp ++ g1, .cons r rs fun p hp hq => dj p hp (List.mem_append_right _ hq), fun p hp => ?_⟩
        rcases List.mem_append.mp hp with z | z
        · exact .inr z
        · exact .inl (List.mem_append_right _ z)
      · rw [if_neg h, if_neg h]
        obtain ⟨f', k1, k2⟩ := Rs.putF r rs fun p hp hq => dj p hp (List.mem_append_right _ hq)
        refine ⟨f1 ++ f', .cons r1 k1 fun p hp hq => ?_, fun p hp => ?_⟩
        · rcases k2 p hq with z | z
          · exact nn p hp z
          · exact dj p z (List.mem_append_left _ hp)
        · rcases List.mem_append.mp hp with z | z
          · exact .inl (List.mem_append_left _ z)
          · rcases k2 p z with w | w
            · exact .inl (List.mem_append_right _ w)
            · exact .inr w
theorem putfB_inv {fs : List (Str × Str)} {f : Str} {d b b' : PX.D} (e : putfB fs f d b = some b') : ∃ c ns ds, b = .box true (.ob c ns) ds ∧ fs.contains (c, f) = true ∧ ns.length < 500 ∧ b' = .box true (.ob c (putNs f ns)) (putFs f d ns ds) := by
  unfold putfB at e
  split at e
  · split at e
    · rename_i h
      exact ⟨_, _, _, rfl, h.1, h.2, (Option.some.inj e).symm⟩
    · cases e
  · cases e
theorem swA {o v : Expr} {g : Str} {px : Pos} {l : Nat} {env : Env} : swapsWith v (some (.Attribute o g px)) l env = pure false := by
  cases v <;> rfl
/-- o.f = e -/
theorem t_putf (hK : K.exc = none) {i : Nat} {pt : List E} {f : Str} {e : E} : SndS N K k fn gl ex P (.putf i pt f e) := by
  refine .ofPS fun {X W sc} c w st h => ?_
  unfold chS at h
  split at h <;> first | (rename_i z; cases z; done) | skip
  all_goals first | (cases h; done) | skip
  rename_i z
  cases z
  obtain ⟨h1, h2⟩ := and_t h
  obtain ⟨h2, h3⟩ := and_t h2
  have e1 := of_decide_eq_true h1
  subst e1
  refine PS.imp (ps_fld (pe_pt (W := W) hK c h2) ((snd hK e).pe (W := W) c _ h3).1 swA) fun D σ H q => ?_
  rw [c.kfr]
  obtain ⟨F, δ, g, s, sr, hp, q⟩ := q
  have q : RestS K W P F H g (((ev fn gl e δ).bind (vlD e.view)).out δ (putfS ex f (pthD fn gl pt) i δ)) D := q
  refine ⟨F, δ, g, s, sr, (RestS.vl sr hp q).mono fun v H1 q => ?_⟩
  obtain ⟨F1, d, fp, gr, r, n, q⟩ := q
  unfold putfS at q
  split at q
  · exact q.elim
  · exact q.elim
  rename_i c0 hd e0
  have nd : c0 ≠ .dead := fun z => hd (by rw [z])
  obtain ⟨v0, ev0, r0⟩ := sr.rel i c0 e0 nd
  refine ⟨F1, δ, g, c0, v0, gr.fh, sr.grow gr, e0, nd, ev0, ?_⟩
  cases ejs : pthD fn gl pt δ c0 with
  | stuck => rw [ejs] at q; exact q.elim
  | exc cc fs =>
    rw [ejs] at q
    exact fun C x F' H' e1 b2 e2 => q C x F' σ H' g e1 (.same (gr.trans b2)) (sr.grow (gr.trans b2)) hp e2
  | ok js =>
    rw [ejs] at q
    intro vo F2 H2 gr2 av
    have q : RestS K W P F H g (match atP c0 js with | none => .stuck | some b => putfGo ex f c0 js δ i b d) D := q
    cases eb : atP c0 js with
    | none => rw [eb] at q; exact q.elim
    | some b =>
      rw [eb] at q
      have q : RestS K W P F H g (putfGo ex f c0 js δ i b d) D := q
      unfold putfGo at q
      split at q
      rotate_left
      · exact q.elim
      rename_i b' epb
      obtain ⟨cl, ns, ds, rfl, hfs, hln, rfl⟩ := putfB_inv epb
      have g12 := gr.trans gr2
      have rv := gr2.r r
      obtain ⟨a, oo, vs, fx, rfl, ha, hk, hs, na, ia, sub, nf, fin⟩ := SR.rewrite (b' := .box true (.ob cl (putNs f ns)) (putFs f d ns ds)) s sr g12 e0 ev0 eb av rfl
      cases hk with
      | @ob _ C dx fs hC hc hn =>
        have hna := c.g.noat cl C f hC (by rw [w.exs]; exact hfs)
        have nv : ∀ p ∈ fp, p ∉ fx := fun p hp2 z => sr.fresh' (n p hp2) i (sub p z)
        obtain ⟨f', k1, k2⟩ := Rs.putF (f := f) rv hs nv
        have hkey : ∀ f0 ∈ (L2.putF f v fs).map (·.1), NoAttr K.fr C f0 := fun f0 h0 => by
          rw [putF_keys] at h0
          have : ∀ {ns : List Str}, f0 ∈ putNs f ns → f0 = f ∨ f0 ∈ ns := fun {ns} => by
            induction ns with
            | nil => intro z; exact .inl (List.mem_singleton.mp z)
            | cons n0 ns ih =>
              intro z
              have z : f0 ∈ (if n0 = f then n0 :: ns else n0 :: putNs f ns) := z
              split at z
              · exact .inr z
              · rcases List.mem_cons.mp z with z | z
                · exact .inr (by rw [z]; exact List.mem_cons_self)
                · exact (ih z).imp id fun z => List.mem_cons_of_mem _ z
          rcases this h0 with z | z
          · rw [z]; exact hna
          · exact hn f0 z
        obtain ⟨g', t, sr', _⟩ := fin (.ob cl (putNs f (fs.map (·.1)))) (.ins C dx (L2.putF f v fs)) _ _ f' rfl (by rw [← putF_keys (y := v)]; exact .ob _ hC hc hkey) k1 (fun z => by
          rcases k2 a z with z | z
          · exact na z
          · exact sr.fresh' (n a z) i ia) fun p hp2 => by
          rcases k2 p hp2 with z | z
          · exact .inl z
          · exact .inr (n p z)
        exact ⟨a, C, dx, fs, rfl, ha, hc, hna, by rw [List.length_map] at hln; omega, q F2 σ _ g' t sr' hp⟩
/-- what a body writes -/
def wrS : S → List Nat
  | .seq a b => wrS a ++ wrS b
  | .asg i _ => [i]
  | .asgt is _ => is
  | .spl x _ _ _ => [x]
  | .ife _ a b => wrS a ++ wrS b
  | .ify _ a b => wrS a ++ wrS b
  | .for_ tg _ b => tgL tg ++ wrS b
  | .wh _ _ b => wrS b
  | .xasg i _ => [i]
  | .xasgt is _ => is
  | .try_ b _ i _ => i :: wrS b
  | .tryN b _ => wrS b
  | .tryZ b => wrS b
  | .tryx b _ i _ => i :: wrS b
  | .tryR b _ _ => wrS b
  | _ => []
theorem wr_l {A B : List Nat} (h : ∀ i ∈ A ++ B, P i = none) : ∀ i ∈ A, P i = none := fun i hi => h i (List.mem_append_left _ hi)
theorem wr_r {A B : List Nat} (h : ∀ i ∈ A ++ B, P i = none) : ∀ i ∈ B, P i = none := fun i hi => h i (List.mem_append_right _ hi)
theorem wr_h {a : Nat} {B : List Nat} (h : ∀ i ∈ a :: B, P i = none) : P a = none := h a List.mem_cons_self
theorem wr_t {a : Nat} {B : List Nat} (h : ∀ i ∈ a :: B, P i = none) : ∀ i ∈ B, P i = none := fun i hi => h i (List.mem_cons_of_mem _ hi)
/-- THE LOOK IS RIGHT, for statements -/
theorem sndS (hK : K.exc = none) : ∀ b : S, (∀ i ∈ wrS b, P i = none) → SndS N K k fn gl ex P b
  | .skip, _ => t_skip
  | .seq a b, h => t_seq (sndS hK a (wr_l h)) (sndS hK b (wr_r h))
  | .asg i e, h => t_asg (wr_h h) (snd hK e) (.inl hK)
  | .asgt is e, h => t_asgt hK h
  | .app i e, _ => t_app hK
  | .put i pt kk e, _ => t_put hK
  | .ife t a b, h => t_ife hK (sndS hK a (wr_l h)) (sndS hK b (wr_r h))
  | .for_ tg src b, h => t_for hK (wr_l h) (sndS hK b (wr_r h))
  | .wh n t b, h => t_wh hK (sndS hK b h)
  | .spl x i m args, h => t_spl hK (wr_h h)
  | .ret2 i j, _ => t_ret2
  | .ret e, _ => t_ret (snd hK e)
  | .retv i, _ => t_retv
  | .retN, _ => t_retN
  | .brk, _ => t_brk
  | .cont, _ => t_cont
  | .drop e, _ => t_drop hK
  | .rse c, _ => t_rse hK
  | .frz i, _ => t_frz
  | .kill i, _ => t_kill
  | .never, _ => t_never
  | .xasg i x, h => t_xasg hK (wr_h h)
  | .xasgt is x, h => t_xasgt hK h
  | .xdrop x, _ => t_xdrop hK
  | .try_ b c i e, h => t_try hK (sndS hK b (wr_t h))
  | .tryN b c, h => t_tryN hK (sndS hK b h)
  | .tryZ b, h => t_tryZ hK (sndS hK b h)
  | .retx e, _ => t_retx (snd hK e)
  | .xret x, _ => t_xret hK
  | .retxm x j, _ => t_retxm
  | .retm x j, _ => t_retm
  | .retxN, _ => t_retxN
  | .rety x, _ => t_rety hK
  | .ify y a b, h => t_ify hK (sndS hK a (wr_l h)) (sndS hK b (wr_r h))
  | .tryx b c i e, h => t_tryx hK (wr_h h) (sndS hK b (wr_t h))
  | .tryR b cs c, _ => t_tryR
  | .frzp i js, _ => t_frzp
  | .putf i p f e, _ => t_putf hK
theorem hot_nlc : ∀ {e : E}, hotE e = true → ∀ own tg src q e', e ≠ .lc own tg src q e' := fun {e} h own tg src q e' z => by
  subst z
  cases h
/-- and while an exception is handled -/
theorem sndSH {x1 : Addr} {c0 : Str} (hK : K.exc = some (x1, c0)) : ∀ b : S, hotS b = true → (∀ i ∈ wrS b, P i = none) → SndS N K k fn gl ex P b
  | .skip, _, _ => t_skip
  | .seq a b, h, hw => t_seq (sndSH hK a (and_t h).1 (wr_l hw)) (sndSH hK b (and_t h).2 (wr_r hw))
  | .asg i e, h, hw => t_asg (wr_h hw) (sndH hK e h) (.inr (hot_nlc h))
  | .ret e, h, _ => t_ret (sndH hK e h)
  | .frz i, _, _ => t_frz
  | .kill i, _, _ => t_kill
end
end PX

/-! PX, part m: the defs' table; the head. -/
namespace PX
open PySem PySem.Spec PyProof.Rows L2

/-- what sort of def: a function; a method; a def (c empty) or method that changes what it is handed where l says true -/
inductive DK where
  | fn | mt (c m : Str) | io (c m : Str) (l : List Bool)
/-- one def: its key, its parameters, its slots' names, its body -/
structure Df where
  nm : Str
  ps : List Str
  N : List Str
  b : S
  kd : DK
def Out.fin : Out → Res D
  | .nx _ => .ok .non
  | .rt d => .ok d
  | .exc c fs _ => .exc c fs
  | _ => .stuck
/-- a body's run -/
def goD (fn : Str → Option (List D → Res D)) (gl : Str → Option D) (ex : Xs) (d : Df) (ds : List D) : Res D :=
  if ds.length = d.ps.length then (exec fn gl ex d.b (ds ++ List.replicate (d.N.length - ds.length) .dead)).fin else .stuck
def maskD : List Bool → List D → List D
  | [], _ => []
  | b :: bs, ds => (if b then ds.headD .dead else .dead) :: maskD bs ds.tail
def Out.finX (l : List Bool) : Out → Res D
  | .nx δ => .ok (.tup (.non :: maskD l δ))
  | .rtx d δ => .ok (.tup (d :: maskD l δ))
  | .exc c fs δ => if fs.isEmpty then .exc c (maskD l δ) else .stuck
  | _ => .stuck
/-- the run of a body that changes what it is handed: what it gives, what is left of its arguments -/
def goX (fn : Str → Option (List D → Res D)) (gl : Str → Option D) (ex : Xs) (d : Df) (l : List Bool) (ds : List D) : Res D :=
  if ds.length = d.ps.length ∧ l.length = ds.length then (exec fn gl ex d.b (ds ++ List.replicate (d.N.length - ds.length) .dead)).finX l else .stuck
def Df.isInit (d : Df) : Bool := match d.kd with
  | .io c m _ => !decide (c = Str.empty) && decide (m = "__init__")
  | _ => false
def Df.go (fn : Str → Option (List D → Res D)) (gl : Str → Option D) (ex : Xs) (d : Df) : List D → Res D := match d.kd with
  | .io _ _ l => goX fn gl ex d l
  | _ => goD fn gl ex d
def findD (T : List Df) (f : Str) : Option Df := T.find? fun d => decide (d.nm = f)
def runD (T : List Df) (gl : Str → Option D) (ex : Xs) : Nat → Str → Option (List D → Res D)
  | 0, f => (findD T f).map fun _ _ => .stuck
  | 1, f => (findD T f).map fun d => if d.isInit then fun _ => .stuck else d.go (runD T gl ex 0) gl ex
  | n + 2, f => (findD T f).map fun d => if d.isInit then d.go (runD T gl ex n) gl ex else d.go (runD T gl ex (n + 1)) gl ex

section
variable {P : Program} {w : World} {K : Kx} {mg : Str → Option Value} {base : Heap} {k : Nat} {fn : Str → Option (List D → Res D)} {gl : Str → Option D} {ex : Xs}
theorem Tr.grow0 {F H F' H' : Hp} {g' : Nat → List Addr} (t : Tr F H (fun _ => []) F' H' g') : Grow F H F' H' :=
  ⟨t.ff, t.fh, fun p o e => t.hh p (fun _ z => nomatch z) o e, fun p n => t.only p (fun _ z => nomatch z) n⟩
theorem Tr.new0 {F H F' H' : Hp} {g' : Nat → List Addr} (t : Tr F H (fun _ => []) F' H' g') {i : Nat} {p : Addr} (h : p ∈ g' i) : H p = none := by
  rcases t.new i p h with ⟨j, z⟩ | e
  · cases z
  · exact e
theorem start_ok {F H : Hp} {N : List Str} {vs : List V} {ds : List D} (rs : Rs K F H vs ds []) : SR K F H (start N vs) (ds ++ List.replicate (N.length - ds.length) .dead) (fun _ => []) := by
  refine ⟨?_, fun i d e hd => ?_, (fun _ _ _ _ z => nomatch z), (fun _ _ z => nomatch z)⟩
  · unfold L2.start
    rw [List.length_append, List.length_append, List.length_map, List.length_replicate, List.length_replicate, rs.length]
  · by_cases hi : i < ds.length
    · rw [List.getElem?_append_left hi] at e
      obtain ⟨v, g, e1, r, n⟩ := rs.get e
      have : g = [] := List.eq_nil_iff_forall_not_mem.mpr fun p hp => nomatch n p hp
      subst this
      refine ⟨v, ?_, r⟩
      unfold L2.start
      rw [List.getElem?_append_left (by rw [List.length_map, rs.length]; exact hi), List.getElem?_map, e1]
      rfl
    · rw [List.getElem?_append_right (Nat.le_of_not_lt hi)] at e
      obtain ⟨_, e2⟩ := List.getElem?_eq_some_iff.mp e
      rw [List.getElem_replicate] at e2
      exact absurd e2.symm hd
theorem goD_lenS {d : Df} {ds : List D} (h : goD fn gl ex d ds ≠ .stuck) : ds.length = d.ps.length := by
  unfold goD at h
  split at h
  · assumption
  · exact absurd rfl h
/-- a body's end -/
theorem fin_ok {K : Kx} {F0 H : Hp} {o : Out} {Q : VK} {E : XK} (h : match o.fin with
    | .ok d => ∀ v F' H' fp, Grow F0 H F' H' → R K F' H' v d fp → (∀ p ∈ fp, H p = none) → Q v H'
    | .exc c fs => ∀ C d F' H', K.ca c = some C → Grow F0 H F' H' → ExD fs d → E (.ref C) d H'
    | .stuck => False) : RestS K (fun cls x _ H' => E cls x H') (fun _ => none) F0 H (fun _ => []) o { nx := fun _ H' => Q .non H', rt := Q } := by
  cases o with
  | nx δ => exact fun F' σ' H' g' t sr _ => h .non F' H' [] t.grow0 .non fun _ z => nomatch z
  | bk δ => exact h.elim
  | ct δ => exact h.elim
  | rt dd => exact fun v F' H' fp t r => h v F' H' fp t.grow0 r fun p hp => t.new0 (i := 0) hp
  | rtx dd δ => exact h.elim
  | exc c fs δ => exact fun C x F' σ' H' g' e t sr _ q => h C x F' H' e t.grow0 q
  | stuck => exact h.elim
theorem wr_of {sc : Scope} {X : Cx} (hs : X.env.scope = sc) (hf : X.fn = fun _ => true) : Wr X sc := fun x hx => by
  refine ⟨?_, .inl (by rw [hf])⟩
  unfold L2.Loc
  rw [hs]
  unfold locB at hx
  split at hx
  · rename_i e; exact .inl e
  · rename_i e; exact .inr e
  · cases hx
/-- a def keeps its promise -/
theorem no_pin {σ : L2.St} : Pn (fun _ => none) σ := fun _ _ e => by cases e
theorem def_ok {d : Df} {a : Addr} {py qual : Str} {args : Arguments} {body : List Stmt} {scope : Scope} {fd : FuncData} (Fd : FunD K.fr py qual args body scope [] [] a fd) (S : FnScope d.N d.ps scope) (ch : chSs d.N scope d.b body = true)
    (G : Gok P w K mg base k fn gl) (hx : K.xs = ex) (hK : K.exc = none) : FnOk P w K.fr mg base (L2N.CX P w) (k + 2) a fd d.ps (spF K (goD fn gl ex d)) := by
  refine Fd.ok S (fun vs H Q E h => ?_) fun cdv A outer s H vs Q E hr h => ?_
  · obtain ⟨F0, ds, s, rs, h⟩ := h
    rw [rs.length]
    refine goD_lenS (fn := fn) (gl := gl) (ex := ex) (d := d) fun e => ?_
    rw [e] at h
    exact h
  · obtain ⟨F0, ds, sm, rs, h⟩ := h
    refine ⟨_, ((sndS (P := fun _ => none) hK d.b fun _ _ => rfl).pss (X := cxOf (L2N.CX P w) P w K.fr mg base d.N qual scope a cdv A outer s H E) (W := fun cls x _ H' => E cls x H') (sc := scope) (gl := gl) (fn := fn) (K := K) (k := k) (ex := ex) ?_ ?_ body ch), F0, _, _, sm, start_ok rs, no_pin, ?_⟩
    · exact ⟨rfl, S.nd, rfl, fun _ => rfl, (fun x1 c e => by rw [hK] at e; cases e), L2N.takes_of rfl rfl rfl rfl, fun _ => hr.hd, L2H.roomH_of hr, rfl, G⟩
    · exact ⟨passes_of rfl, wr_of rfl rfl, S.kind, hx, rfl, rfl⟩
    · have e1 : ds.length = d.ps.length := goD_lenS (fn := fn) (gl := gl) (ex := ex) (d := d) fun e => by
        rw [e] at h
        exact h
      unfold goD at h
      rw [if_pos e1] at h
      exact fin_ok h
/-- and while an exception is handled -/
theorem def_okH {d : Df} {a : Addr} {py qual : Str} {args : Arguments} {body : List Stmt} {scope : Scope} {fd : FuncData} (Fd : FunD K.fr py qual args body scope [] [] a fd) (S : FnScope d.N d.ps scope) (ch : chSs d.N scope d.b body = true) (hh : hotS d.b = true)
    (G : Gok P w K mg base k fn gl) (hx : K.xs = ex) {x1 C : Addr} {c : Str} (hca : K.ca c = some C) (hrs : K.xs.rs.contains c = true) (hcx : K.xs.cx = true) : FnP P w K.fr mg base (k + 2) a fd d.ps x1 (ZC C) (spF (K.hot x1 c) (goD fn gl ex d)) := by
  obtain ⟨oc, od, dV, kV, doc, pm, an, cdv, ct, osl, rfl, lk, hcd, _, _⟩ := Fd.ex
  refine fn_ofP lk hcd S (fun vs H Q E h => ?_) fun A outer s H vs Q E oe hd ob hz hr h => ?_
  · obtain ⟨F0, ds, s, rs, h⟩ := h
    rw [rs.length]
    refine goD_lenS (fn := fn) (gl := gl) (ex := ex) (d := d) fun e => ?_
    rw [e] at h
    exact h
  · obtain ⟨F0, ds, sm, rs, h⟩ := h
    refine ⟨_, ((sndSH (P := fun _ => none) (K := K.hot x1 c) rfl d.b hh fun _ _ => rfl).pss (X := L2H.cxH (L2N.CX P w) P w K.fr mg base d.N qual scope a cdv A outer s H E (x1, oe)) (W := fun cls x _ H' => E cls x H') (sc := scope) (gl := gl) (fn := fn) (k := k) (ex := ex) ?_ ?_ body ch), F0, _, _, sm, start_ok rs, no_pin, ?_⟩
    · refine ⟨rfl, S.nd, rfl, (fun e => by cases e), (fun y1 c1 e => ?_), L2N.takes_of rfl rfl rfl rfl, (fun e => by cases e), hr, rfl, G.toHot⟩
      cases e
      exact ⟨hcx, hrs, oe, C, hca, HotQ.pn hd ob List.mem_cons_self, hz⟩
    · exact ⟨passes_of rfl, wr_of rfl rfl, S.kind, hx, rfl, rfl⟩
    · have e1 : ds.length = d.ps.length := goD_lenS (fn := fn) (gl := gl) (ex := ex) (d := d) fun e => by
        rw [e] at h
        exact h
      unfold goD at h
      rw [if_pos e1] at h
      exact fin_ok h
theorem spF_stuck {d : List D → Res D} (hd : ∀ ds, d ds = .stuck) {a : Addr} {fd : FuncData} {ps : List Str} : FnOk P w K.fr mg base (L2N.CX P w) k a fd ps (spF K d) := by
  refine ⟨fun vs H Q E h => ?_, fun A outer s H args us vs Q E _ _ _ _ h => ?_⟩
  all_goals
    obtain ⟨F0, ds, _, _, h⟩ := h
    rw [hd] at h
    exact h.elim
theorem spF_stuckH {K' : Kx} {d : List D → Res D} (hd : ∀ ds, d ds = .stuck) {a x1 : Addr} {fd : FuncData} {ps : List Str} {Z : Obj → Prop} : FnP P w K.fr mg base k a fd ps x1 Z (spF K' d) := by
  refine ⟨fun vs H Q E h => ?_, fun A outer s H args us vs Q E oe _ _ _ _ _ _ _ _ h => ?_⟩
  all_goals
    obtain ⟨F0, ds, _, _, h⟩ := h
    rw [hd] at h
    exact h.elim
/-! ### defs that change what they are handed -/
theorem Rs.split {F H : Hp} : ∀ {vs : List V} {ds : List D} {fp : List Addr}, Rs K F H vs ds fp → ∃ fs : List (List Addr), (∀ i v d, vs[i]? = some v → ds[i]? = some d → R K F H v d (fs.getD i [])) ∧ (∀ i j, i ≠ j → ∀ p ∈ fs.getD i [], p ∉ fs.getD j []) ∧ ∀ i p, p ∈ fs.getD i [] → p ∈ fp
  | _, _, _, .nil => ⟨[], (fun i v d e => by simp at e), (fun i j _ p hp => by simp at hp), fun i p hp => by simp at hp⟩
  | _, _, _, .cons (f := f) r rs n => by
    obtain ⟨fs, k1, k2, k3⟩ := Rs.split rs
    refine ⟨f :: fs, fun i v d e1 e2 => ?_, fun i j hij p hp hq => ?_, fun i p hp => ?_⟩
    · cases i with
      | zero => simp at e1 e2; subst e1 e2; exact r
      | succ i => exact k1 i v d (by simpa using e1) (by simpa using e2)
    · cases i with
      | zero =>
        cases j with
        | zero => exact hij rfl
        | succ j => exact n p hp (k3 j p hq)
      | succ i =>
        cases j with
        | zero => exact n p hq (k3 i p hp)
        | succ j => exact k2 i j (fun z => hij (by rw [z])) p hp hq
    · cases i with
      | zero => exact List.mem_append_left _ hp
      | succ i => exact List.mem_append_right _ (k3 i p hp)
theorem start_own {F H : Hp} {N : List Str} {vs : List V} {ds : List D} {fp : List Addr} (rs : Rs K F H vs ds fp) : ∃ g, SR K F H (start N vs) (ds ++ List.replicate (N.length - ds.length) .dead) g ∧ ∀ i p, p ∈ g i → p ∈ fp := by
  obtain ⟨fs, k1, k2, k3⟩ := rs.split
  refine ⟨fun i => fs.getD i [], ⟨?_, fun i d e hd => ?_, k2, fun i p hp => rs.there p (k3 i p hp)⟩, k3⟩
  · unfold L2.start
    rw [List.length_append, List.length_append, List.length_map, List.length_replicate, List.length_replicate, rs.length]
  · by_cases hi : i < ds.length
    · rw [List.getElem?_append_left hi] at e
      have hv : i < vs.length := by rw [rs.length]; exact hi
      refine ⟨vs[i], ?_, k1 i _ d (List.getElem?_eq_getElem hv) e⟩
      unfold L2.start
      rw [List.getElem?_append_left (by rw [List.length_map]; exact hv), List.getElem?_map, List.getElem?_eq_getElem hv]
      rfl
    · rw [List.getElem?_append_right (Nat.le_of_not_lt hi)] at e
      obtain ⟨_, e2⟩ := List.getElem?_eq_some_iff.mp e
      rw [List.getElem_replicate] at e2
      exact absurd e2.symm hd
theorem mask_rs {F H : Hp} {σ : L2.St} {δ : List D} {g : Nat → List Addr} (sr : SR K F H σ δ g) : ∀ (l : List Bool) (vs : List V) (k : Nat), l.length = vs.length → (∀ i, l[i]? = some true → ∃ v, vs[i]? = some v ∧ σ[k + i]? = some (some v)) →
    ∃ gp, Rs K F H vs (maskD l (δ.drop k)) gp ∧ ∀ p ∈ gp, ∃ i, k ≤ i ∧ p ∈ g i
  | [], [], k, _, _ => ⟨[], .nil, fun _ z => nomatch z⟩
  | [], _ :: _, _, h, _ => nomatch h
  | _ :: _, [], _, h, _ => nomatch h
  | b :: l, v :: vs, k, hl, h => by
    obtain ⟨gp, k1, k2⟩ := mask_rs sr l vs (k + 1) (by simpa using hl) fun i e => by
      obtain ⟨w, e1, e2⟩ := h (i + 1) (by simpa using e)
      exact ⟨w, by simpa using e1, by rw [show k + 1 + i = k + (i + 1) by omega]; exact e2⟩
    show ∃ gp, Rs K F H (v :: vs) ((if b then (δ.drop k).headD .dead else .dead) :: maskD l (δ.drop k).tail) gp ∧ _
    rw [List.tail_drop]
    have dead : ∃ gp, Rs K F H (v :: vs) (.dead :: maskD l (δ.drop (k + 1))) gp ∧ ∀ p ∈ gp, ∃ i, k ≤ i ∧ p ∈ g i := ⟨[] ++ gp, .cons .dead k1 (fun _ z => nomatch z), fun p hp => by
      obtain ⟨i, hi, z⟩ := k2 p hp
      exact ⟨i, by omega, z⟩⟩
    cases b with
    | false => exact dead
    | true =>
      rw [if_pos rfl]
      obtain ⟨w, e1, e2⟩ := h 0 rfl
      have e1 : v = w := by simpa using e1
      subst e1
      have e2 : σ[k]? = some (some v) := e2
      have hh : (δ.drop k).headD .dead = δ.getD k .dead := by
        rw [List.headD_eq_head?_getD, List.head?_drop, List.getD_eq_getElem?_getD]
      rw [hh, List.getD_eq_getElem?_getD]
      cases ed : δ[k]? with
      | none => exact dead
      | some d =>
        show ∃ gp, Rs K F H (v :: vs) (d :: maskD l (δ.drop (k + 1))) gp ∧ _
        by_cases nd : d = .dead
        · subst nd; exact dead
        · obtain ⟨u, e3, r⟩ := sr.rel k d ed nd
          rw [e2] at e3
          cases e3
          refine ⟨g k ++ gp, .cons r k1 fun p hp hq => ?_, fun p hp => ?_⟩
          · obtain ⟨i, hi, z⟩ := k2 p hq
            exact sr.dis k i (by omega) p hp z
          · rcases List.mem_append.mp hp with z | z
            · exact ⟨k, Nat.le_refl _, z⟩
            · obtain ⟨i, hi, z⟩ := k2 p z
              exact ⟨i, by omega, z⟩
theorem Tr.toI {F H F' H' : Hp} {g g' : Nat → List Addr} {fp gp : List Addr} (t : Tr F H g F' H' g') (sub : ∀ i p, p ∈ g i → p ∈ fp) (n : ∀ p ∈ gp, (∃ j, p ∈ g j) ∨ H p = none) : TrI F H fp F' H' gp :=
  ⟨t.ff, t.fh, fun p h o e => t.hh p (fun i z => h (sub i p z)) o e, fun p h n => t.only p (fun i z => h (sub i p z)) n, fun p hp => by
    rcases n p hp with ⟨j, z⟩ | z
    · exact .inl (sub j p z)
    · exact .inr z⟩
/-- the slots that keep their values -/
def pinP (l : List Bool) (vs : List V) (i : Nat) : Option V := if l[i]? = some true then vs[i]? else none
theorem pinP_start {N : List Str} {l : List Bool} {vs : List V} : Pn (pinP l vs) (start N vs) := fun i v e => by
  unfold pinP at e
  split at e
  · unfold L2.start
    rw [List.getElem?_append_left (by rw [List.length_map]; exact (List.getElem?_eq_some_iff.mp e).1), List.getElem?_map, e]
    rfl
  · cases e
theorem fin_okX {F0 H : Hp} {g : Nat → List Addr} {fp : List Addr} {o : Out} {l : List Bool} {vs : List V} {Q : VK} {E : XK} (hl : l.length = vs.length) (sub : ∀ i p, p ∈ g i → p ∈ fp) (h : match o.finX l with
    | .ok (.tup (d :: bs)) => ∀ v F' H' fd gp, TrI F0 H fp F' H' (fd ++ gp) → Rs K F' H' vs bs gp → R K F' H' v d fd → (∀ p ∈ fd, p ∉ gp) → Q v H'
    | .exc c bs => ∀ C F' H' gp, K.ca c = some C → TrI F0 H fp F' H' gp → Rs K F' H' vs bs gp → E (.ref C) none H'
    | _ => False) : RestS K (fun cls x _ H' => E cls x H') (pinP l vs) F0 H g o { nx := fun _ H' => Q .non H', rt := Q } := by
  have pins : ∀ {σ' : L2.St}, Pn (pinP l vs) σ' → ∀ i, l[i]? = some true → ∃ v, vs[i]? = some v ∧ σ'[0 + i]? = some (some v) := fun {σ'} hp i e => by
    have hi : i < vs.length := by rw [← hl]; exact (List.getElem?_eq_some_iff.mp e).1
    refine ⟨vs[i], List.getElem?_eq_getElem hi, ?_⟩
    rw [Nat.zero_add]
    exact hp i _ (by unfold pinP; rw [if_pos e]; exact List.getElem?_eq_getElem hi)
  cases o with
  | nx δ =>
    intro F' σ' H' g' t sr hp
    obtain ⟨gp, k1, k2⟩ := mask_rs sr l vs 0 hl (pins hp)
    exact h .non F' H' [] gp (t.toI sub fun p hq => by
      obtain ⟨i, _, z⟩ := k2 p hq
      exact t.new i p z) k1 .non fun _ z => nomatch z
  | rtx dd δ =>
    intro v F' σ' H' g' fd t sr hp r n
    obtain ⟨gp, k1, k2⟩ := mask_rs sr l vs 0 hl (pins hp)
    exact h v F' H' fd gp (t.toI sub fun p hq => by
      rcases List.mem_append.mp hq with z | z
      · exact (n p z).2
      · obtain ⟨i, _, z⟩ := k2 p z
        exact t.new i p z) k1 r fun p hq z => by
      obtain ⟨i, _, w⟩ := k2 p z
      exact (n p hq).1 i w
  | exc c fs δ =>
    intro C x F' σ' H' g' e t sr hp xd
    obtain ⟨gp, k1, k2⟩ := mask_rs sr l vs 0 hl (pins hp)
    obtain ⟨rfl, rfl⟩ := xd
    exact h C F' H' gp e (t.toI sub fun p hq => by
      obtain ⟨i, _, z⟩ := k2 p hq
      exact t.new i p z) k1
  | bk δ => exact h.elim
  | ct δ => exact h.elim
  | rt dd => exact h.elim
  | stuck => exact h.elim
theorem goX_len {d : Df} {l : List Bool} {ds : List D} (h : goX fn gl ex d l ds ≠ .stuck) : ds.length = d.ps.length ∧ l.length = ds.length := by
  unfold goX at h
  split at h
  · assumption
  · exact absurd rfl h
/-- a def that changes what it is handed keeps its promise -/
theorem def_okX {d : Df} {l : List Bool} {a : Addr} {py qual : Str} {args : Arguments} {body : List Stmt} {scope : Scope} {fd : FuncData} (Fd : FunD K.fr py qual args body scope [] [] a fd) (S : FnScope d.N d.ps scope) (ch : chSs d.N scope d.b body = true) (hw : ((wrS d.b).all fun i => !(l.getD i false)) = true)
    (G : Gok P w K mg base k fn gl) (hx : K.xs = ex) (hK : K.exc = none) : FnOk P w K.fr mg base (L2N.CX P w) (k + 2) a fd d.ps (spI K (goX fn gl ex d l)) := by
  have ns : ∀ {F0 H : Hp} {vs : List V} {ds : List D} {fp : List Addr} {Q : VK} {E : XK}, (match goX fn gl ex d l ds with
      | .ok (.tup (d :: bs)) => ∀ v F' H' fd gp, TrI F0 H fp F' H' (fd ++ gp) → Rs K F' H' vs bs gp → R K F' H' v d fd → (∀ p ∈ fd, p ∉ gp) → Q v H'
      | .exc c bs => ∀ C F' H' gp, K.ca c = some C → TrI F0 H fp F' H' gp → Rs K F' H' vs bs gp → E (.ref C) none H'
      | _ => False) → goX fn gl ex d l ds ≠ .stuck := fun h e => by rw [e] at h; exact h
  refine Fd.ok S (fun vs H Q E h => ?_) fun cdv A outer s H vs Q E hr h => ?_
  · obtain ⟨F0, ds, fp, s, rs, h⟩ := h
    rw [rs.length]
    exact (goX_len (ns h)).1
  · obtain ⟨F0, ds, fp, sm, rs, h⟩ := h
    obtain ⟨l1, l2⟩ := goX_len (ns h)
    obtain ⟨g, sr, sub⟩ := start_own (N := d.N) rs
    have hp : ∀ i ∈ wrS d.b, pinP l vs i = none := fun i hi => by
      have := List.all_eq_true.mp hw i hi
      unfold pinP
      rw [if_neg fun z => by
        rw [List.getD_eq_getElem?_getD, z] at this
        cases this]
    refine ⟨_, ((sndS (P := pinP l vs) hK d.b hp).pss (X := cxOf (L2N.CX P w) P w K.fr mg base d.N qual scope a cdv A outer s H E) (W := fun cls x _ H' => E cls x H') (sc := scope) (gl := gl) (fn := fn) (K := K) (k := k) (ex := ex) ?_ ?_ body ch), F0, _, g, sm, sr, pinP_start, ?_⟩
    · exact ⟨rfl, S.nd, rfl, fun _ => rfl, (fun x1 c e => by rw [hK] at e; cases e), L2N.takes_of rfl rfl rfl rfl, fun _ => hr.hd, L2H.roomH_of hr, rfl, G⟩
    · exact ⟨passes_of rfl, wr_of rfl rfl, S.kind, hx, rfl, rfl⟩
    · unfold goX at h
      rw [if_pos ⟨l1, l2⟩] at h
      exact fin_okX (by rw [l2, rs.length]) sub h
theorem spI_stuck {d : List D → Res D} (hd : ∀ ds, d ds = .stuck) {a : Addr} {fd : FuncData} {ps : List Str} : FnOk P w K.fr mg base (L2N.CX P w) k a fd ps (spI K d) := by
  refine ⟨fun vs H Q E h => ?_, fun A outer s H args us vs Q E _ _ _ _ h => ?_⟩
  all_goals
    obtain ⟨F0, ds, _, _, _, h⟩ := h
    rw [hd] at h
    exact h.elim
/-! ### keys -/
theorem key_cut {x y : Nat} : ∀ {l1 l2 m1 m2 : List Nat}, x ∉ l2 → y ∉ l1 → l1 ++ x :: m1 = l2 ++ y :: m2 → l1 = l2 ∧ x = y ∧ m1 = m2
  | [], [], _, _, _, _, h => by cases h; exact ⟨rfl, rfl, rfl⟩
  | [], b :: l2, _, _, h1, _, h => by
    cases h
    exact absurd List.mem_cons_self h1
  | a :: l1, [], _, _, _, h2, h => by
    cases h
    exact absurd List.mem_cons_self h2
  | a :: l1, b :: l2, m1, m2, h1, h2, h => by
    injection h with e1 e2
    obtain ⟨k1, k2, k3⟩ := key_cut (fun z => h1 (List.mem_cons_of_mem _ z)) (fun z => h2 (List.mem_cons_of_mem _ z)) e2
    exact ⟨by rw [e1, k1], k2, k3⟩
theorem bare_of {c : Str} (h : bare c = true) : 46 ∉ c.cps.toList ∧ 33 ∉ c.cps.toList := by
  obtain ⟨h1, h2⟩ := and_t h
  exact ⟨by simpa using h1, by simpa using h2⟩
theorem keyM_l (c m : Str) : (keyM c m).cps.toList = c.cps.toList ++ 46 :: m.cps.toList := by
  show ((c.cps ++ #[46]) ++ m.cps).toList = _
  simp
theorem keyX_l (c m : Str) : (keyX c m).cps.toList = c.cps.toList ++ 33 :: m.cps.toList := by
  show ((c.cps ++ #[33]) ++ m.cps).toList = _
  simp
theorem strc_ext {a b : Str} (h : a.cps.toList = b.cps.toList) : a = b := by
  obtain ⟨⟨a⟩⟩ := a
  obtain ⟨⟨b⟩⟩ := b
  cases h
  rfl
theorem keyM_inj {c m c' m' : Str} (h1 : bare c = true) (h2 : bare c' = true) (h : keyM c m = keyM c' m') : c = c' ∧ m = m' := by
  have := congrArg (fun z : Str => z.cps.toList) h
  rw [keyM_l, keyM_l] at this
  obtain ⟨k1, _, k3⟩ := key_cut (bare_of h2).1 (bare_of h1).1 this
  exact ⟨strc_ext k1, strc_ext k3⟩
theorem keyX_inj {c m c' m' : Str} (h1 : bare c = true) (h2 : bare c' = true) (h : keyX c m = keyX c' m') : c = c' ∧ m = m' := by
  have := congrArg (fun z : Str => z.cps.toList) h
  rw [keyX_l, keyX_l] at this
  obtain ⟨k1, _, k3⟩ := key_cut (bare_of h2).2 (bare_of h1).2 this
  exact ⟨strc_ext k1, strc_ext k3⟩
theorem keyMX {c m c' m' : Str} (h1 : bare c = true) (h2 : bare c' = true) (h : keyM c m = keyX c' m') : False := by
  have := congrArg (fun z : Str => z.cps.toList) h
  rw [keyM_l, keyX_l] at this
  obtain ⟨_, k, _⟩ := key_cut (bare_of h2).1 (bare_of h1).2 this
  cases k
theorem bareM {c m : Str} (h : bare (keyM c m) = true) : False := (bare_of h).1 (by rw [keyM_l]; simp)
theorem bareX {c m : Str} (h : bare (keyX c m) = true) : False := (bare_of h).2 (by rw [keyX_l]; simp)
/-- where a def stands -/
def AtOk (K : Kx) (mg : Str → Option Value) (d : Df) (a : Addr) : Prop := match d.kd with
  | .fn => bare d.nm = true ∧ mg d.nm = some (.ref a)
  | .mt c m => d.nm = keyM c m ∧ bare c = true ∧ ∃ C, K.ca c = some C ∧ Cls K.fr C ∧ Meth K.fr C m a
  | .io c m l => d.nm = keyX c m ∧ bare c = true ∧ ((wrS d.b).all fun i => !(l.getD i false)) = true ∧ (c = Str.empty → mg m = some (.ref a)) ∧ (c ≠ Str.empty → ∃ C, K.ca c = some C ∧ Cls K.fr C ∧ (m = "__init__" → Mk K.fr C a ∧ mg c = some (.ref C)) ∧ (m ≠ "__init__" → Meth K.fr C m a))
/-- what is known of a def -/
structure DefOk (P : Program) (w : World) (K : Kx) (mg : Str → Option Value) (base : Heap) (d : Df) : Prop where
  ex : ∃ (a : Addr) (fd : FuncData) (py qual : Str) (args : Arguments) (body : List Stmt) (scope : Scope), AtOk K mg d a ∧ FunD K.fr py qual args body scope [] [] a fd ∧ FnScope d.N d.ps scope ∧ Binds K.fr fd d.ps [] ∧ chSs d.N scope d.b body = true
  hot : d.nm = "_law_kinds" → hotS d.b = true
theorem find_ok {T : List Df} {f : Str} {d : Df} (h : findD T f = some d) : d ∈ T ∧ d.nm = f := by
  unfold findD at h
  exact ⟨List.mem_of_find?_eq_some h, by simpa using List.find?_some h⟩
/-- what the module holds, beside its defs -/
structure Mok (K : Kx) (mg : Str → Option Value) (gl : Str → Option D) : Prop where
  gls : ∀ x d, gl x = some d → ∃ v u, mg x = some u ∧ RelV v u ∧ ∀ e F H, R { K with exc := e } F H v d []
  free : ∀ x ∈ bltNames, mg x = none
  has : ∀ c, K.xs.rs.contains c = true ∨ K.xs.es.contains c = true → ∃ C, K.ca c = some C
  cls : ∀ c C, K.ca c = some C → K.xs.rs.contains c = true → RaC K mg c C
  emg : ∀ u U, K.ca u = some U → K.xs.es.contains u = true → mg u = some (.ref U)
  exm : ∀ c C u U, K.ca c = some C → K.ca u = some U → K.xs.rs.contains c = true → K.xs.es.contains u = true → PySem.W.exmOne K.fr (.ref C) (.ref U) = some (subX c u)
  kit : K.xs.cx = true → mg "ValueError" = none ∧ ∀ c C, K.ca c = some C → K.xs.rs.contains c = true → KiC K mg c C
  noat : ∀ c C f, K.ca c = some C → K.xs.fs.contains (c, f) = true → NoAttr K.fr C f
/-- what a def does at a depth -/
structure DoD (P : Program) (w : World) (K : Kx) (mg : Str → Option Value) (base : Heap) (d : Df) (k : Nat) (Fn : List D → Res D) : Prop where
  pl : (d.kd matches .io ..) = false → ∀ a fd py qual args body scope, FunD K.fr py qual args body scope [] [] a fd → FnScope d.N d.ps scope → chSs d.N scope d.b body = true → FnOk P w K.fr mg base (L2N.CX P w) k a fd d.ps (spF K Fn)
  io : ∀ c m l, d.kd = .io c m l → ((wrS d.b).all fun i => !(l.getD i false)) = true → ∀ a fd py qual args body scope, FunD K.fr py qual args body scope [] [] a fd → FnScope d.N d.ps scope → chSs d.N scope d.b body = true → FnOk P w K.fr mg base (L2N.CX P w) k a fd d.ps (spI K Fn)
theorem DoD.stuck {d : Df} {F : List D → Res D} (h : ∀ ds, F ds = .stuck) : DoD P w K mg base d k F := ⟨fun _ _ _ _ _ _ _ _ _ _ _ => spF_stuck h, fun _ _ _ _ _ _ _ _ _ _ _ _ _ _ _ => spI_stuck h⟩
theorem DoD.go {d : Df} (G : Gok P w K mg base k fn gl) (hx : K.xs = ex) (hK : K.exc = none) : DoD P w K mg base d (k + 2) (d.go fn gl ex) := by
  refine ⟨fun h a fd py qual args body scope g1 g2 g3 => ?_, fun c m l h hw a fd py qual args body scope g1 g2 g3 => ?_⟩
  · have : d.go fn gl ex = goD fn gl ex d := by
      unfold Df.go
      split
      · rename_i e; rw [e] at h; cases h
      · rfl
    rw [this]
    exact def_ok g1 g2 g3 G hx hK
  · have : d.go fn gl ex = goX fn gl ex d l := by
      unfold Df.go
      rw [h]
    rw [this]
    exact def_okX g1 g2 g3 hw G hx hK
theorem law_kinds_bare : bare "_law_kinds" = true := by decide +kernel
theorem gok_of {T : List Df} {fn : Str → Option (List D → Res D)} {n : Nat} (hd : ∀ d ∈ T, DefOk P w K mg base d) (M : Mok K mg gl) (hf : ∀ f Fn, fn f = some Fn → ∃ d, findD T f = some d ∧ (d.isInit = false → DoD P w K mg base d (n + 1) Fn) ∧ (d.isInit = true → DoD P w K mg base d n Fn))
    (hh : ∀ Fn, fn "_law_kinds" = some Fn → ∀ d, findD T "_law_kinds" = some d → d.kd = .fn → hotS d.b = true → ∀ x1 c C, K.ca c = some C → K.xs.rs.contains c = true → K.xs.cx = true → ∀ a fd py qual args body scope, FunD K.fr py qual args body scope [] [] a fd → FnScope d.N d.ps scope → chSs d.N scope d.b body = true →
      FnP P w K.fr mg base (n + 1) a fd d.ps x1 (ZC C) (spF (K.hot x1 c) Fn)) : Gok P w K mg base n fn gl := by
  have kdf : ∀ {d : Df} {a : Addr}, AtOk K mg d a → bare d.nm = true → d.kd = .fn ∧ mg d.nm = some (.ref a) := fun {d a} h hb => by
    unfold AtOk at h
    split at h
    · rename_i e; exact ⟨e, h.2⟩
    · rw [h.1] at hb; exact (bareM hb).elim
    · rw [h.1] at hb; exact (bareX hb).elim
  have emp : bare Str.empty = true := by decide +kernel
  refine ⟨fun _ f Fn hb e => ?_, fun _ c m Fn hb e => ?_, fun _ c m Fn hb hc hm e => ?_, fun _ m Fn e => ?_, fun _ c Fn hb hc e => ?_, M.noat, fun Fn e x1 c C hca hrs hcx => ?_, M.gls, M.free, M.has, M.cls, M.emg, M.exm, M.kit⟩
  · obtain ⟨d, q, k1, _⟩ := hf f Fn e
    obtain ⟨hm, hn⟩ := find_ok q
    obtain ⟨a, fd, py, qual, args, body, scope, g1, g2, g3, g4, g5⟩ := (hd d hm).ex
    obtain ⟨kd, gm⟩ := kdf g1 (by rw [hn]; exact hb)
    rw [hn] at gm
    exact ⟨a, fd, d.ps, gm, (k1 (by unfold Df.isInit; rw [kd])).pl (by rw [kd]) _ _ _ _ _ _ _ g2 g3 g5, g2.kp, g4⟩
  · obtain ⟨d, q, k1, _⟩ := hf _ Fn e
    obtain ⟨hm, hn⟩ := find_ok q
    obtain ⟨a, fd, py, qual, args, body, scope, g1, g2, g3, g4, g5⟩ := (hd d hm).ex
    unfold AtOk at g1
    split at g1
    · rw [hn] at g1; exact (bareM g1.1).elim
    · rename_i c' m' kd
      obtain ⟨e1, e2, C, h1, h2, h3⟩ := g1
      rw [hn] at e1
      obtain ⟨rfl, rfl⟩ := keyM_inj hb e2 e1
      exact ⟨C, a, fd, d.ps, h1, h2, h3, (k1 (by unfold Df.isInit; rw [kd])).pl (by rw [kd]) _ _ _ _ _ _ _ g2 g3 g5, g4⟩
    · rw [hn] at g1; exact (keyMX hb g1.2.1 g1.1).elim
  · obtain ⟨d, q, k1, _⟩ := hf _ Fn e
    obtain ⟨hmm, hn⟩ := find_ok q
    obtain ⟨a, fd, py, qual, args, body, scope, g1, g2, g3, g4, g5⟩ := (hd d hmm).ex
    unfold AtOk at g1
    split at g1
    · rw [hn] at g1; exact (bareX g1.1).elim
    · rw [hn] at g1; exact (keyMX g1.2.1 hb g1.1.symm).elim
    · rename_i c' m' l kd
      obtain ⟨e1, e2, hw, _, h2⟩ := g1
      rw [hn] at e1
      obtain ⟨rfl, rfl⟩ := keyX_inj hb e2 e1
      obtain ⟨C, q1, q2, _, q4⟩ := h2 hc
      exact ⟨C, a, fd, d.ps, q1, q2, q4 hm, (k1 (by unfold Df.isInit; rw [kd]; simp [hm])).io _ _ _ kd hw _ _ _ _ _ _ _ g2 g3 g5, g4⟩
  · obtain ⟨d, q, k1, _⟩ := hf _ Fn e
    obtain ⟨hmm, hn⟩ := find_ok q
    obtain ⟨a, fd, py, qual, args, body, scope, g1, g2, g3, g4, g5⟩ := (hd d hmm).ex
    unfold AtOk at g1
    split at g1
    · rw [hn] at g1; exact (bareX g1.1).elim
    · rw [hn] at g1; exact (keyMX g1.2.1 emp g1.1.symm).elim
    · rename_i c' m' l kd
      obtain ⟨e1, e2, hw, h1, _⟩ := g1
      rw [hn] at e1
      obtain ⟨rfl, rfl⟩ := keyX_inj emp e2 e1
      exact ⟨a, fd, d.ps, h1 rfl, (k1 (by unfold Df.isInit; rw [kd]; simp)).io _ _ _ kd hw _ _ _ _ _ _ _ g2 g3 g5, g2.kp, g4⟩
  · obtain ⟨d, q, _, k2⟩ := hf _ Fn e
    obtain ⟨hmm, hn⟩ := find_ok q
    obtain ⟨a, fd, py, qual, args, body, scope, g1, g2, g3, g4, g5⟩ := (hd d hmm).ex
    unfold AtOk at g1
    split at g1
    · rw [hn] at g1; exact (bareX g1.1).elim
    · rw [hn] at g1; exact (keyMX g1.2.1 hb g1.1.symm).elim
    · rename_i c' m' l kd
      obtain ⟨e1, e2, hw, h1, h2⟩ := g1
      rw [hn] at e1
      obtain ⟨rfl, rfl⟩ := keyX_inj hb e2 e1
      obtain ⟨C, q1, q2, q3, _⟩ := h2 hc
      obtain ⟨q5, q6⟩ := q3 rfl
      exact ⟨C, a, fd, d.ps, q1, q6, q2, q5, (k2 (by unfold Df.isInit; rw [kd]; simp [hc])).io _ _ _ kd hw _ _ _ _ _ _ _ g2 g3 g5, g4⟩
  · obtain ⟨d, q, _, _⟩ := hf _ Fn e
    obtain ⟨hmm, hn⟩ := find_ok q
    obtain ⟨a, fd, py, qual, args, body, scope, g1, g2, g3, g4, g5⟩ := (hd d hmm).ex
    obtain ⟨kd, gm⟩ := kdf g1 (by rw [hn]; exact law_kinds_bare)
    rw [hn] at gm
    exact ⟨a, fd, d.ps, gm, hh Fn e d q kd ((hd d hmm).hot hn) x1 c C hca hrs hcx _ _ _ _ _ _ _ g2 g3 g5, g2.kp, g4⟩
theorem table_ok {T : List Df} (hd : ∀ d ∈ T, DefOk P w K mg base d) (M : Mok K mg gl) (hx : K.xs = ex) (hK : K.exc = none) : ∀ n, Gok P w K mg base n (runD T gl ex n) gl
  | 0 => by
    refine gok_of hd M (fun f Fn e => ?_) fun Fn e d q kd hot x1 c C hca hrs hcx a fd py qual args body scope g2 g3 g5 => ?_
    all_goals
      unfold runD at e
      obtain ⟨d', q', e⟩ := Option.map_eq_some_iff.mp e
      subst e
    · exact ⟨d', q', fun _ => .stuck fun _ => rfl, fun _ => .stuck fun _ => rfl⟩
    · exact spF_stuckH fun _ => rfl
  | 1 => by
    have ih := table_ok hd M hx hK 0
    refine gok_of hd M (fun f Fn e => ?_) fun Fn e d q kd hot x1 c C hca hrs hcx a fd py qual args body scope g2 g3 g5 => ?_
    all_goals
      unfold runD at e
      obtain ⟨d', q', e⟩ := Option.map_eq_some_iff.mp e
      subst e
    · refine ⟨d', q', fun h => ?_, fun h => ?_⟩
      · rw [h]
        exact .go ih hx hK
      · rw [h]
        exact .stuck fun _ => rfl
    · rw [q] at q'
      cases q'
      have e1 : d.isInit = false := by unfold Df.isInit; rw [kd]
      have e2 : d.go (runD T gl ex 0) gl ex = goD (runD T gl ex 0) gl ex d := by unfold Df.go; rw [kd]
      rw [e1]
      show FnP P w K.fr mg base 2 a fd d.ps x1 (ZC C) (spF (K.hot x1 c) (d.go (runD T gl ex 0) gl ex))
      rw [e2]
      exact def_okH g2 g3 g5 hot ih hx hca hrs hcx
  | n + 2 => by
    have ih0 := table_ok hd M hx hK n
    have ih := table_ok hd M hx hK (n + 1)
    refine gok_of hd M (fun f Fn e => ?_) fun Fn e d q kd hot x1 c C hca hrs hcx a fd py qual args body scope g2 g3 g5 => ?_
    all_goals
      unfold runD at e
      obtain ⟨d', q', e⟩ := Option.map_eq_some_iff.mp e
      subst e
    · refine ⟨d', q', fun h => ?_, fun h => ?_⟩
      · rw [h]
        exact .go ih hx hK
      · rw [h]
        exact .go ih0 hx hK
    · rw [q] at q'
      cases q'
      have e1 : d.isInit = false := by unfold Df.isInit; rw [kd]
      have e2 : d.go (runD T gl ex (n + 1)) gl ex = goD (runD T gl ex (n + 1)) gl ex d := by unfold Df.go; rw [kd]
      rw [e1]
      show FnP P w K.fr mg base (n + 3) a fd d.ps x1 (ZC C) (spF (K.hot x1 c) (d.go (runD T gl ex (n + 1)) gl ex))
      rw [e2]
      exact def_okH g2 g3 g5 hot ih hx hca hrs hcx
end

/-! ### the text's defs -/
def scopeB (N ps : List Str) (sc : Scope) : Bool :=
  (match sc.kind with | .function => true | _ => false) && (!sc.isCoroutine && (!sc.isGenerator && (decide N.Nodup && (decide (N.take ps.length = ps) && ((ps.all fun x => match sc.names.lookup x with | some .local => true | some .cell => true | _ => false) && (sc.names.all fun y => match y.2 with | .free => false | _ => true))))))
theorem scope_of {N ps : List Str} {sc : Scope} (h : scopeB N ps sc = true) : FnScope N ps sc := by
  obtain ⟨h1, h⟩ := and_t h
  obtain ⟨h2, h⟩ := and_t h
  obtain ⟨h3, h⟩ := and_t h
  obtain ⟨h4, h⟩ := and_t h
  obtain ⟨h5, h⟩ := and_t h
  obtain ⟨h6, h7⟩ := and_t h
  refine ⟨?_, by simpa using h2, by simpa using h3, of_decide_eq_true h4, of_decide_eq_true h5, fun x hx => ?_, fun y hy e => ?_⟩
  · split at h1
    · assumption
    · cases h1
  · have := List.all_eq_true.mp h6 x hx
    split at this
    · rename_i e; exact .inl e
    · rename_i e; exact .inr e
    · cases this
  · have := List.all_eq_true.mp h7 y hy
    rw [e] at this
    cases this
def Df.py (d : Df) : Str := match d.kd with
  | .fn => d.nm
  | .mt _ m => m
  | .io _ m _ => m
def Df.qual (d : Df) : Str := match d.kd with
  | .fn => d.nm
  | .mt c m => keyM c m
  | .io c m _ => if c = Str.empty then m else keyM c m
def Df.at_ (d : Df) : Str × Option Str := match d.kd with
  | .fn => (d.nm, none)
  | .mt c m => (c, some m)
  | .io c m _ => if c = Str.empty then (m, none) else (c, some m)
def keyB (cs : List Str) (d : Df) : Bool := match d.kd with
  | .fn => bare d.nm
  | .mt c m => decide (d.nm = keyM c m) && (bare c && cs.contains c)
  | .io c m l => decide (d.nm = keyX c m) && (bare c && (((wrS d.b).all fun i => !(l.getD i false)) && (decide (c = Str.empty) || cs.contains c)))
/-- the def d is the statement st -/
def isDef (cs : List Str) (st : Stmt) (d : Df) : Bool := match st with
  | .FunctionDef n _ b _ _ _ sc _ _ _ => decide (n = d.py) && ((scopeB d.N d.ps sc && chSs d.N sc d.b b) && ((!decide (d.nm = "_law_kinds") || hotS d.b) && keyB cs d))
  | _ => false
def datD (st : Stmt) (d : Df) : He.DefD := ⟨d.at_, d.py, d.qual, defArgs st, defBody st, defScope st, [], []⟩
theorem isDef_of {cs : List Str} {st : Stmt} {d : Df} (h : isDef cs st d = true) : FnScope d.N d.ps (defScope st) ∧ chSs d.N (defScope st) d.b (defBody st) = true ∧ (d.nm = "_law_kinds" → hotS d.b = true) ∧ keyB cs d = true := by
  cases st with
  | FunctionDef n a b _ _ _ sc _ _ _ =>
    obtain ⟨_, h⟩ := and_t h
    obtain ⟨h, h3⟩ := and_t h
    obtain ⟨h1, h2⟩ := and_t h
    obtain ⟨h3, h4⟩ := and_t h3
    refine ⟨scope_of h1, h2, fun e => ?_, h4⟩
    rcases Bool.or_eq_true_iff.mp h3 with z | z
    · rw [decide_eq_true e] at z
      cases z
    · exact z
  | _ => cases h
def BindOk (st : Stmt) (d : Df) : Prop := ∀ (kV doc pm : Value) (an : Option Addr) (cdv ct : Value) (us : List Value), us.length = d.ps.length → bindArgs (PySem.W.fnOf d.py d.qual (defArgs st) (defBody st) (defScope st) .none kV doc pm an cdv ct) ⟨us, []⟩ = pure (d.ps.zip us)

/-! ### constants -/
def strsB : List Str → List Value → Bool
  | [], [] => true
  | d :: ds, .str y _ :: us => decide (d = y) && strsB ds us
  | _, _ => false
theorem strs_of : ∀ {ds : List Str} {us : List Value}, strsB ds us = true → Vals (ds.map V.str) us
  | [], [], _ => .nil
  | [], _ :: _, h => by cases h
  | _ :: _, [], h => by cases h
  | d :: ds, u :: us, h => by
    cases u with
    | str y t =>
      obtain ⟨h1, h2⟩ := and_t h
      have e := of_decide_eq_true h1
      subst e
      exact .cons ⟨t, rfl⟩ (strs_of h2)
    | _ => cases h
def valB (K : PySem.W.Frag) : D → Value → Bool
  | .non, .none => true
  | .bl b, .bool c => b == c
  | .int i, .int j _ => decide (i = j)
  | .str x, .str y _ => decide (x = y)
  | .ctup ds, .ref a => (match K.lookup a with
    | some ⟨.type c, none, .seq its _, _⟩ => decide (c = "tuple") && (decide (its.size ≤ sizeLine) && strsB ds its.toList)
    | _ => false)
  | _, _ => false
theorem val_of {K : Kx} : ∀ {d : D} {u : Value}, valB K.fr d u = true → ∃ v, RelV v u ∧ ∀ e F H, R { K with exc := e } F H v d []
  | .non, u, h => by
    cases u with
    | none => exact ⟨.non, rfl, fun _ _ _ => .non⟩
    | _ => cases h
  | .bl b, u, h => by
    cases u with
    | bool c =>
      have e : b = c := eq_of_beq h
      subst e
      exact ⟨.bl b, rfl, fun _ _ _ => .bl b⟩
    | _ => cases h
  | .int i, u, h => by
    cases u with
    | int j t =>
      have e : i = j := of_decide_eq_true h
      subst e
      exact ⟨.int i, ⟨t, rfl⟩, fun _ _ _ => .int i⟩
    | _ => cases h
  | .str i, u, h => by
    cases u with
    | str j t =>
      have e : i = j := of_decide_eq_true h
      subst e
      exact ⟨.str i, ⟨t, rfl⟩, fun _ _ _ => .str i⟩
    | _ => cases h
  | .dead, u, h => by cases u <;> cases h
  | .scr _, u, h => by cases u <;> cases h
  | .tup _, u, h => by cases u <;> cases h
  | .exv _ _, u, h => by cases u <;> cases h
  | .box _ _ _, u, h => by cases u <;> cases h
  | .ctup ds, u, h => by
    cases u with
    | ref a =>
      have h : (match K.fr.lookup a with
        | some ⟨.type c, none, .seq its _, _⟩ => decide (c = "tuple") && (decide (its.size ≤ sizeLine) && strsB ds its.toList)
        | _ => false) = true := h
      split at h
      · rename_i c its n sl e
        obtain ⟨h1, h2⟩ := and_t h
        obtain ⟨h2, h3⟩ := and_t h2
        have h1 : c = "tuple" := of_decide_eq_true h1
        subst h1
        exact ⟨.ref a, rfl, fun _ F H => .ctup ds (fun H => .inr ⟨_, its, n, e, rfl, rfl, of_decide_eq_true h2, strs_of h3⟩) ⟨_, e, rfl, rfl⟩⟩
      · cases h
    | _ => cases h
def gvB (K : PySem.W.Frag) (p : Str × D) : Bool := match PySem.W.nsIn K mainGlobals p.1 with
  | some (some u) => valB K p.2 u
  | _ => false
theorem lookup_in {α : Type} {x : Str} {d : α} : ∀ {l : List (Str × α)}, l.lookup x = some d → (x, d) ∈ l
  | (y, e) :: r, h => by
    rw [List.lookup_cons] at h
    cases q : (x == y) with
    | true =>
      rw [q] at h
      cases h
      rw [beq_iff_eq.mp q]
      exact List.mem_cons_self
    | false =>
      rw [q] at h
      exact List.mem_cons_of_mem _ (lookup_in h)

/-! ### the head -/
/-- a law's text: its top's defs, the names of its error classes, its constants, the classes it catches, whether it tells errors apart -/
structure Tx where
  L : List (Nat × Df)
  rs : List Str
  G : List (Str × D)
  es : List Str
  cx : Bool
  cs : List (Str × List Str)
def Tx.T (t : Tx) : List Df := t.L.map (·.2)
def Tx.gl (t : Tx) (x : Str) : Option D := t.G.lookup x
def Tx.ex (t : Tx) : Xs := ⟨t.rs, t.es, t.cx, t.cs.flatMap fun p => p.2.map fun f => (p.1, f)⟩
def Tx.csn (t : Tx) : List Str := t.cs.map (·.1)
def Tx.run (t : Tx) (n : Nat) : Str → Option (List D → Res D) := runD t.T t.gl t.ex n
def bodySt : Stmt → List Stmt
  | .ClassDef _ _ _ b _ _ _ _ _ _ _ => b
  | _ => []
/-- the statement i of the top; beyond 1000 one within a class -/
def topSt (p : Program) (i : Nat) : Stmt := if i < 1000 then p.main.body.getD i (.Pass ⟨0, 0, 0, 0⟩) else (bodySt (p.main.body.getD (i % 1000) (.Pass ⟨0, 0, 0, 0⟩))).getD (i / 1000 - 1) (.Pass ⟨0, 0, 0, 0⟩)
def Df.fas (d : Df) : List He.Fa := match d.kd with
  | .fn => [.glo d.nm]
  | .mt c m => [.meth c m]
  | .io c m _ => if c = Str.empty then [.glo m] else if m = "__init__" then [.mkr c] else [.meth c m]
def Tx.cfa (t : Tx) : List He.Fa := t.cs.flatMap fun p => .glo p.1 :: .cls p.1 :: p.2.map (He.Fa.noat p.1)
def Tx.fn (t : Tx) (p : Program) : List He.DefD := t.L.map fun q => datD (topSt p q.1) q.2
def Tx.own (t : Tx) : List Str := if t.cx then own14 else []
def Tx.fa (t : Tx) : List He.Fa := ((t.L.flatMap fun q => q.2.fas) ++ t.cfa) ++ ((bltNames.map He.Fa.free) ++ ((t.rs.map He.Fa.glo) ++ ((t.rs.map He.Fa.exc) ++ ((t.es.map He.Fa.glo) ++ ((t.own.map He.Fa.glo) ++ (if t.cx then [He.Fa.free "ValueError"] else []))))))
/-- isinstance asks its instances rightly -/
def ecB (K : PySem.W.Frag) (D : Addr) : Bool :=
  decide (PySem.W.findIn K (.ref D) "__getattribute__" = some (some (.builtin "BaseException.__getattribute__"))) && (decide (PySem.W.findIn K (.ref D) "__getattr__" = some none) && (decide (PySem.W.subIn K (.ref D) (.type "BaseException") = some true) && (PySem.W.hasDictIn K D &&
    (decide (PySem.W.findIn K (.ref D) "__class__" = some (some (.builtin "object.__class__"))) && (decide (PySem.W.specialIn K (.builtin "object.__class__") "__get__" = some (some (.builtin "getset_descriptor.__get__"))) && (decide (PySem.W.takesIn K (.builtin "object.__class__") = some true) && decide (PySem.W.mroIn K D (.type "object") = some true)))))))
theorem ec_of {K : PySem.W.Frag} {D : Addr} (h : ecB K D = true) : ExcC K D := by
  obtain ⟨h1, h⟩ := and_t h
  obtain ⟨h2, h⟩ := and_t h
  obtain ⟨h3, h⟩ := and_t h
  obtain ⟨h4, h⟩ := and_t h
  obtain ⟨h5, h⟩ := and_t h
  obtain ⟨h6, h⟩ := and_t h
  obtain ⟨h7, h8⟩ := and_t h
  exact ⟨of_decide_eq_true h1, of_decide_eq_true h2, of_decide_eq_true h3, h4, of_decide_eq_true h5, of_decide_eq_true h6, of_decide_eq_true h7, of_decide_eq_true h8⟩
def Tx.exmB (t : Tx) (K : PySem.W.Frag) : Bool := t.rs.all fun c => t.es.all fun u => decide (PySem.W.exmOne K (.ref (He.ga K c)) (.ref (He.ga K u)) = some (subX c u))
def Tx.kitB (t : Tx) (K : PySem.W.Frag) : Bool := !t.cx || t.rs.all fun c => ecB K (He.ga K c) && ((own14.all fun u => decide (PySem.W.kitOne K (.ref (He.ga K c)) (.ref (He.ga K u)) = some (subX c u))) && decide (PySem.W.kitOne K (.ref (He.ga K c)) (.type "ValueError") = some true))
def Tx.more (t : Tx) (K : PySem.W.Frag) : Bool := t.G.all (gvB K) && (t.exmB K && t.kitB K)
def Tx.okB (t : Tx) (p : Program) : Bool := t.L.all fun q => isDef t.csn (topSt p q.1) q.2
abbrev Tx.hk (t : Tx) (p : Program) (m : Nat) : PySem.W.Hook := He.hookX m t.fa (t.fn p) [] [] t.more
def Tx.ob (t : Tx) (p : Program) (m : Nat) (s : PySem.W.SharedT) : He.AlX := He.obsX m t.fa (t.fn p) [] [] t.more (HandSHeadRun.getT s)
theorem Tx.ob_eq (t : Tx) (p : Program) (m : Nat) (s : PySem.W.SharedT) : t.ob p m s = (t.hk p m).obs s.abs := He.obsX_eq (HandSHeadRun.getT_eq s)
def Tx.K (t : Tx) (Kf : PySem.W.Frag) : Kx := ⟨Kf, fun y => if t.rs.contains y || (t.es.contains y || t.csn.contains y) then some (He.ga Kf y) else none, t.ex, none⟩
theorem Tx.mok {t : Tx} {p : Program} {w : World} {Kf : PySem.W.Frag} {h : Heap} {mg : Str → Option Value} (X : Kf.In h) (G : h.Ns mainGlobals mg) (c : He.SaysX t.fa (t.fn p) [] [] t.more w h Kf) : Mok (t.K Kf) mg t.gl := by
  have d1 := c.t.d
  have hm0 : (t.G.all (gvB Kf) && (t.exmB Kf && t.kitB Kf)) = true := c.more
  obtain ⟨m1, m23⟩ := and_t hm0
  obtain ⟨m2, m3⟩ := and_t m23
  have fct : ∀ {f : He.Fa}, f ∈ t.fa → f.ok Kf = true := fun {f} hf => d1.facts hf
  have gloX : ∀ {y}, He.Fa.glo y ∈ t.fa → mg y = some (.ref (He.ga Kf y)) := fun {y} hy => He.glo_ok X G (fct hy)
  have inEx : ∀ {f : He.Fa}, f ∈ (t.rs.map He.Fa.glo) ++ ((t.rs.map He.Fa.exc) ++ ((t.es.map He.Fa.glo) ++ ((t.own.map He.Fa.glo) ++ (if t.cx then [He.Fa.free "ValueError"] else [])))) → f ∈ t.fa := fun {f} hf => by
    unfold Tx.fa
    exact List.mem_append_right _ (List.mem_append_right _ hf)
  have caOf : ∀ {y C}, (t.K Kf).ca y = some C → C = He.ga Kf y := fun {y C} e => by
    have e : (if t.rs.contains y || (t.es.contains y || t.csn.contains y) then some (He.ga Kf y) else none) = some C := e
    split at e
    · exact (Option.some.inj e).symm
    · cases e
  have caIn : ∀ {y}, (t.rs.contains y || (t.es.contains y || t.csn.contains y)) = true → (t.K Kf).ca y = some (He.ga Kf y) := fun {y} e => if_pos e
  refine ⟨fun y dd e => ?_, fun y hy => ?_, fun y hy => ?_, fun cc C e he => ?_, fun u U e he => ?_, fun cc C u U e1 e2 h1 h2 => ?_, fun hcx => ⟨?_, fun cc C e he => ?_⟩, fun cc C f e he => ?_⟩
  · have hm := List.all_eq_true.mp m1 _ (lookup_in e)
    have hm : (match PySem.W.nsIn Kf mainGlobals y with | some (some u) => valB Kf dd u | _ => false) = true := hm
    split at hm
    · rename_i u e2
      obtain ⟨v, rv, r⟩ := val_of (K := t.K Kf) hm
      exact ⟨v, u, PySem.W.mg_of X G e2, rv, r⟩
    · cases hm
  · exact He.free_ok X G (fct (by
      unfold Tx.fa
      exact List.mem_append_right _ (List.mem_append_left _ (List.mem_map.mpr ⟨y, hy, rfl⟩))))
  · refine ⟨_, caIn ?_⟩
    rcases hy with h | h
    · exact Bool.or_eq_true_iff.mpr (.inl h)
    · exact Bool.or_eq_true_iff.mpr (.inr (Bool.or_eq_true_iff.mpr (.inl h)))
  · obtain rfl := caOf e
    have hm : cc ∈ t.rs := by simpa using (show t.rs.contains cc = true from he)
    obtain ⟨k1, k2, k3, k4⟩ := He.exc_ok (fct (inEx (List.mem_append_right _ (List.mem_append_left _ (List.mem_map.mpr ⟨cc, hm, rfl⟩)))))
    exact ⟨gloX (inEx (List.mem_append_left _ (List.mem_map.mpr ⟨cc, hm, rfl⟩))), k1, k2, k3, k4⟩
  · obtain rfl := caOf e
    have hm : u ∈ t.es := by simpa using (show t.es.contains u = true from he)
    exact gloX (inEx (List.mem_append_right _ (List.mem_append_right _ (List.mem_append_left _ (List.mem_map.mpr ⟨u, hm, rfl⟩)))))
  · obtain rfl := caOf e1
    obtain rfl := caOf e2
    have hm : cc ∈ t.rs := by simpa using (show t.rs.contains cc = true from h1)
    have hn : u ∈ t.es := by simpa using (show t.es.contains u = true from h2)
    exact of_decide_eq_true (List.all_eq_true.mp (List.all_eq_true.mp m2 cc hm) u hn)
  · have hcx : t.cx = true := hcx
    refine He.free_ok X G (fct (inEx (List.mem_append_right _ (List.mem_append_right _ (List.mem_append_right _ (List.mem_append_right _ ?_))))))
    rw [if_pos hcx]
    exact List.mem_singleton.mpr rfl
  · obtain rfl := caOf e
    have hcx : t.cx = true := hcx
    have hm : cc ∈ t.rs := by simpa using (show t.rs.contains cc = true from he)
    have m3 : (!t.cx || t.rs.all fun c => ecB Kf (He.ga Kf c) && ((own14.all fun u => decide (PySem.W.kitOne Kf (.ref (He.ga Kf c)) (.ref (He.ga Kf u)) = some (subX c u))) && decide (PySem.W.kitOne Kf (.ref (He.ga Kf c)) (.type "ValueError") = some true))) = true := m3
    rw [hcx] at m3
    obtain ⟨q1, q2⟩ := and_t (List.all_eq_true.mp m3 cc hm)
    obtain ⟨q2, q3⟩ := and_t q2
    refine ⟨ec_of q1, fun u hu => ⟨He.ga Kf u, gloX (inEx (List.mem_append_right _ (List.mem_append_right _ (List.mem_append_right _ (List.mem_append_left _ (List.mem_map.mpr ⟨u, ?_, rfl⟩)))))), ?_⟩, of_decide_eq_true q3⟩
    · unfold Tx.own
      rw [if_pos hcx]
      simpa using hu
    · exact of_decide_eq_true (List.all_eq_true.mp q2 u (by simpa using hu))
  · obtain rfl := caOf e
    have he : (cc, f) ∈ t.cs.flatMap fun p => p.2.map fun f => (p.1, f) := by simpa using (show (t.cs.flatMap fun p => p.2.map fun f => (p.1, f)).contains (cc, f) = true from he)
    obtain ⟨p, hp, h2⟩ := List.mem_flatMap.mp he
    obtain ⟨f', hf', e3⟩ := List.mem_map.mp h2
    cases e3
    refine He.noat_ok (fct (?_ : He.Fa.noat p.1 f ∈ t.fa))
    unfold Tx.fa Tx.cfa
    exact List.mem_append_left _ (List.mem_append_right _ (List.mem_flatMap.mpr ⟨p, hp, List.mem_cons_of_mem _ (List.mem_cons_of_mem _ (List.mem_map.mpr ⟨f, hf', rfl⟩))⟩))
theorem Tx.run_of0 {t : Tx} {d : Df} {f : Str} {n : Nat} (h : findD t.T f = some d) (hk : d.kd = .fn) : t.run (n + 1) f = some (goD (t.run n) t.gl t.ex d) := by
  have e1 : d.isInit = false := by unfold Df.isInit; rw [hk]
  have e2 : ∀ fn, d.go fn t.gl t.ex = goD fn t.gl t.ex d := fun fn => by unfold Df.go; rw [hk]
  cases n with
  | zero =>
    show (findD t.T f).map _ = _
    rw [h, Option.map_some, e1, ← e2]
    rfl
  | succ n =>
    show (findD t.T f).map _ = _
    rw [h, Option.map_some, e1, ← e2]
    rfl
theorem Tx.run_ofM {t : Tx} {d : Df} {f c m : Str} {n : Nat} (h : findD t.T f = some d) (hk : d.kd = .mt c m) : t.run (n + 1) f = some (goD (t.run n) t.gl t.ex d) := by
  have e1 : d.isInit = false := by unfold Df.isInit; rw [hk]
  have e2 : ∀ fn, d.go fn t.gl t.ex = goD fn t.gl t.ex d := fun fn => by unfold Df.go; rw [hk]
  cases n with
  | zero =>
    show (findD t.T f).map _ = _
    rw [h, Option.map_some, e1, ← e2]
    rfl
  | succ n =>
    show (findD t.T f).map _ = _
    rw [h, Option.map_some, e1, ← e2]
    rfl
theorem Tx.run_ofX {t : Tx} {d : Df} {f c m : Str} {l : List Bool} {n : Nat} (h : findD t.T f = some d) (hk : d.kd = .io c m l) (hi : d.isInit = false) : t.run (n + 1) f = some (goX (t.run n) t.gl t.ex d l) := by
  have e2 : ∀ fn, d.go fn t.gl t.ex = goX fn t.gl t.ex d l := fun fn => by unfold Df.go; rw [hk]
  cases n with
  | zero =>
    show (findD t.T f).map _ = _
    rw [h, Option.map_some, hi, ← e2]
    rfl
  | succ n =>
    show (findD t.T f).map _ = _
    rw [h, Option.map_some, hi, ← e2]
    rfl
theorem Tx.run_ofI {t : Tx} {d : Df} {f c m : Str} {l : List Bool} {n : Nat} (h : findD t.T f = some d) (hk : d.kd = .io c m l) (hi : d.isInit = true) : t.run (n + 2) f = some (goX (t.run n) t.gl t.ex d l) := by
  have e2 : ∀ fn, d.go fn t.gl t.ex = goX fn t.gl t.ex d l := fun fn => by unfold Df.go; rw [hk]
  show (findD t.T f).map _ = _
  rw [h, Option.map_some, hi, ← e2]
  rfl
theorem Tx.facts {t : Tx} {p : Program} {w : World} {Kf : PySem.W.Frag} {h : Heap} {mg : Str → Option Value} {fa : Addr} {x : Str} {n : Nat} {P : Program} {i : Nat} {d : Df} (X : Kf.In h) (G : h.Ns mainGlobals mg) (hfa : mg d.nm = some (.ref fa)) (c : He.SaysX t.fa (t.fn p) [] [] t.more w h Kf)
    (ok : t.okB p = true) (bs : ∀ q ∈ t.L, BindOk (topSt p q.1) q.2) (hd : (i, d) ∈ t.L) (hf : findD t.T d.nm = some d) (hkd : d.kd = .fn) (hps : d.ps = [x]) (m : Nat) (law : ∀ ns : List Int, ns.length ≤ m → ∃ Fn, t.run n d.nm = some Fn ∧ Fn [.scr ns] = .ok (.bl true)) :
    ∃ (K : Kx) (fd : FuncData) (sp : Sp), K.fr.In h ∧ (∀ (s : Shared) (u : Value), BindsTo s fd ⟨[u], []⟩ [(x, u)]) ∧
      (∀ (H : Hp) (a : Addr) (ns : List Int), ns.length ≤ m → Only H → SqL K.fr H a (ns.map V.int) → sp [.ref a] H (fun v _ => v = .bl true) fun _ _ _ => False) ∧
      ∀ base : Heap, K.fr.In base → base.Ns mainGlobals mg → FnOk P w K.fr mg base (L2N.CX P w) (n + 1) fa fd [x] sp := by
  have d1 := c.t.d
  have M := Tx.mok X G c
  generalize hKt : t.K Kf = K at M
  have hfr : K.fr = Kf := by rw [← hKt]; rfl
  have hxs : K.xs = t.ex := by rw [← hKt]; rfl
  have hK : K.exc = none := by rw [← hKt]; rfl
  subst hfr
  have hdef : ∀ q ∈ t.L, ∃ fd, FunD K.fr q.2.py q.2.qual (defArgs (topSt p q.1)) (defBody (topSt p q.1)) (defScope (topSt p q.1)) [] [] (He.fAd K.fr q.2.at_) fd := fun q hq => by
    have : datD (topSt p q.1) q.2 ∈ t.fn p := List.mem_map.mpr ⟨q, hq, rfl⟩
    exact d1.defs this
  have ffa : ∀ q ∈ t.L, ∀ f ∈ q.2.fas, f.ok K.fr = true := fun q hq f hf => d1.facts (by
    unfold Tx.fa
    exact List.mem_append_left _ (List.mem_append_left _ (List.mem_flatMap.mpr ⟨q, hq, hf⟩)))
  have fcs : ∀ c, t.csn.contains c = true → K.ca c = some (He.ga K.fr c) ∧ Cls K.fr (He.ga K.fr c) ∧ mg c = some (.ref (He.ga K.fr c)) := fun c hc => by
    have hm : c ∈ t.cs.map (·.1) := by simpa using (show (t.cs.map (·.1)).contains c = true from hc)
    obtain ⟨q, hq, rfl⟩ := List.mem_map.mp hm
    have ff : ∀ f ∈ (He.Fa.glo q.1 :: He.Fa.cls q.1 :: q.2.map (He.Fa.noat q.1)), f.ok K.fr = true := fun f hf => d1.facts (by
      unfold Tx.fa Tx.cfa
      exact List.mem_append_left _ (List.mem_append_right _ (List.mem_flatMap.mpr ⟨q, hq, hf⟩)))
    refine ⟨?_, He.cls_ok (ff _ (List.mem_cons_of_mem _ List.mem_cons_self)), He.glo_ok X G (ff _ List.mem_cons_self)⟩
    rw [← hKt]
    show (if t.rs.contains q.1 || (t.es.contains q.1 || t.csn.contains q.1) then some (He.ga (t.K K.fr).fr q.1) else none) = _
    rw [hc]
    simp
  have hat : ∀ q ∈ t.L, keyB t.csn q.2 = true → AtOk K mg q.2 (He.fAd K.fr q.2.at_) := fun q hq hb => by
    have ff := ffa q hq
    unfold AtOk
    unfold keyB at hb
    unfold Df.at_
    unfold Df.fas at ff
    cases hk : q.2.kd with
    | fn =>
      rw [hk] at hb ff
      exact ⟨hb, He.glo_ok X G (ff _ List.mem_cons_self)⟩
    | mt c m =>
      rw [hk] at hb ff
      obtain ⟨h1, h2⟩ := and_t hb
      obtain ⟨h2, h3⟩ := and_t h2
      obtain ⟨k1, k2, _⟩ := fcs c h3
      exact ⟨of_decide_eq_true h1, h2, _, k1, k2, He.meth_ok (ff _ List.mem_cons_self)⟩
    | io c m l =>
      rw [hk] at hb ff
      obtain ⟨h1, h2⟩ := and_t hb
      obtain ⟨h2, h3⟩ := and_t h2
      obtain ⟨h3, h4⟩ := and_t h3
      refine ⟨of_decide_eq_true h1, h2, h3, fun hc => ?_, fun hc => ?_⟩
      · have ff : (He.Fa.glo m).ok K.fr = true := ff _ (by simp only [hc, if_pos]; exact List.mem_cons_self)
        have := He.glo_ok X G ff
        simp only [hc, if_pos]
        exact this
      · have h4 : t.csn.contains c = true := by
          rcases Bool.or_eq_true_iff.mp h4 with z | z
          · exact absurd (of_decide_eq_true z) hc
          · exact z
        obtain ⟨k1, k2, k3⟩ := fcs c h4
        simp only [if_neg hc] at ff ⊢
        refine ⟨_, k1, k2, fun hm => ?_, fun hm => ?_⟩
        · subst hm
          have ff : (He.Fa.mkr c).ok K.fr = true := ff _ (by rw [if_pos rfl]; exact List.mem_cons_self)
          exact ⟨He.mkr_ok ff, k3⟩
        · have ff : (He.Fa.meth c m).ok K.fr = true := ff _ (by rw [if_neg hm]; exact List.mem_cons_self)
          exact He.meth_ok ff
  have all : ∀ base : Heap, ∀ dd ∈ t.T, DefOk P w K mg base dd := fun base dd hdd => by
    obtain ⟨q, hq, rfl⟩ := List.mem_map.mp hdd
    obtain ⟨fd, Fd⟩ := hdef q hq
    obtain ⟨s1, s2, s3, s4⟩ := isDef_of (List.all_eq_true.mp ok q hq)
    exact ⟨⟨_, fd, _, _, _, _, _, hat q hq s4, Fd, s1, FunD.bindsN Fd (bs q hq), s2⟩, s3⟩
  obtain ⟨fd, Fd⟩ := hdef _ hd
  have hkn : d.kd = .fn := hkd
  have e : fa = He.fAd K.fr d.at_ := by
    obtain ⟨_, _, _, s4⟩ := isDef_of (List.all_eq_true.mp ok _ hd)
    have := hat _ hd s4
    unfold AtOk at this
    simp only [hkn] at this
    have h2 := hfa.symm.trans this.2
    cases h2
    rfl
  subst e
  refine ⟨K, fd, spF K ((t.run n d.nm).getD fun _ => .stuck), X, fun s u => ?_, fun H a ns hl _ hS => ?_, fun base hb hn => ?_⟩
  · have := FunD.bindsA Fd (bs _ hd) s [u] (by rw [hps] <;> rfl)
    rw [hps] at this
    exact this
  · obtain ⟨Fn, e1, e2⟩ := law ns hl
    refine ⟨H, [.scr ns], Same.refl H, Rs.one (.scr ns hS), ?_⟩
    rw [e1]
    show match Fn [.scr ns] with | .ok d => _ | .exc c fs => _ | .stuck => _
    rw [e2]
    exact fun v F' H' fp _ r _ => r.bl_inv
  · obtain ⟨s1, s2, _⟩ := isDef_of (List.all_eq_true.mp ok _ hd)
    cases n with
    | zero =>
      obtain ⟨Fn, e1, e2⟩ := law [] (Nat.zero_le _)
      unfold Tx.run runD at e1
      rw [hf] at e1
      cases e1
      cases e2
    | succ n =>
      have g := table_ok (P := P) (w := w) (K := K) (mg := mg) (base := base) (gl := t.gl) (ex := t.ex) (all base) M hxs hK n
      have e1 : t.run (n + 1) d.nm = some (goD (runD t.T t.gl t.ex n) t.gl t.ex d) := Tx.run_of0 hf hkn
      rw [e1]
      have := def_ok Fd s1 s2 g hxs hK
      rw [hps] at this
      exact this
/-- the law's call, what may be let out told by the world -/
theorem walkW {l : PySem.W.OpenLaw} {n k : Nat} {q : Program} {loose : List Str} {XP : (Str → Option Value) → Heap → Prop} {YP : World → Heap → Prop} {d : DefRec} {x : Str} (hn : l.most = some n) (hn2 : n ≤ sizeLine) (hdf : d.params.defaults = []) (hr : Room k callerA)
    (F : ∀ (w : World) (mg : Str → Option Value) (fa : Addr) (h : Heap), YP w h → h.Ns mainGlobals mg → mg d.name = some (.ref fa) → ∃ (K : Kx) (fd : FuncData) (sp : Sp), K.fr.In h ∧ (∀ (s : Shared) (u : Value), BindsTo s fd ⟨[u], []⟩ [(x, u)]) ∧
      (∀ (H : Hp) (a : Addr) (ns : List Int), ns.length ≤ n → Only H → SqL K.fr H a (ns.map V.int) → sp [.ref a] H (fun v _ => v = .bl true) fun _ _ _ => False) ∧ ∀ base : Heap, K.fr.In base → base.Ns mainGlobals mg → FnOk l.prog w K.fr mg base (L2N.CX l.prog w) k fa fd [x] sp) :
    PySem.W.WalkO q loose XP YP l.row.toRowW d [] fun f vs => PySem.call f vs := by
  apply Att.attach_call hn hdf
  intro w s0 s1 mg mb fa o pm cd doc a vs ns G Y ho hd hcd hmg hobj hints hlen hg
  obtain ⟨K, fd, sp, KX, bn, prm, ok⟩ := F w mg fa _ Y G.T.g hmg
  refine law_call KX G.T.g G.T.b G.T.builtins G.T.nolimit hg hobj hints (Nat.le_trans hlen hn2) hr ok bn (fun H hO hS => prm H a ns hlen hO hS) fun H e s2 z => ?_
  obtain ⟨_, _, _, _, _, _, _, _, _, _, _, _, z⟩ := z
  exact z
end PX

/-! PX, part n (second layer): how a run is computed. -/
namespace PX
open PySem PySem.Spec PyProof.Rows L2

/-- a rule that simp writes down step by step (the kernel is not to run it) -/
theorem nr {α : Sort _} {a b : α} (h : a = b) : a = b := h
def callD (F : Option (List D → Res D)) (r : Res D) : Res D := match F with
  | none => .stuck
  | some F => r.bind fun x => lend F (unT x)
def locD : Option D → Res D
  | some .dead => .stuck
  | some d => .ok d
  | none => .stuck
section
variable {fn : Str → Option (List D → Res D)} {gl : Str → Option D} {ex : Xs} {δ : List D}
@[simp] theorem ev_loc {i : Nat} : ev fn gl (.loc i) δ = locD δ[i]? := nr rfl
@[simp] theorem locD_non : locD (some .non) = .ok .non := nr rfl
@[simp] theorem locD_bl {b : Bool} : locD (some (.bl b)) = .ok (.bl b) := nr rfl
@[simp] theorem locD_int {b : Int} : locD (some (.int b)) = .ok (.int b) := nr rfl
@[simp] theorem locD_str {b : Str} : locD (some (.str b)) = .ok (.str b) := nr rfl
@[simp] theorem locD_scr {b : List Int} : locD (some (.scr b)) = .ok (.scr b) := nr rfl
@[simp] theorem locD_ctup {b : List Str} : locD (some (.ctup b)) = .ok (.ctup b) := nr rfl
@[simp] theorem locD_tup {b : List D} : locD (some (.tup b)) = .ok (.tup b) := nr rfl
@[simp] theorem locD_box {o : Bool} {k : Kind} {b : List D} : locD (some (.box o k b)) = .ok (.box o k b) := nr rfl
@[simp] theorem locD_exv {c : Str} {fs : List D} : locD (some (.exv c fs)) = .ok (.exv c fs) := nr rfl
@[simp] theorem ev_isx {a : E} {u : Str} : ev fn gl (.isx a u) δ = (ev fn gl a δ).bind (isxD u) := nr rfl
@[simp] theorem ev_lcl {own : List Nat} {tg : Tg} {src c e : E} : ev fn gl (.lcl own tg src c e) δ = (ev fn gl src δ).bind fun s => lclD s fun xs => lcGo (fun x => bindTg tg x (wipeD δ own)) (ev fn gl c) (ev fn gl e) e.view xs [] := nr rfl
@[simp] theorem ev_int {i : Int} : ev fn gl (.int i) δ = .ok (.int i) := nr rfl
@[simp] theorem ev_str {x : Str} : ev fn gl (.str x) δ = .ok (.str x) := nr rfl
@[simp] theorem ev_bl {b : Bool} : ev fn gl (.bl b) δ = .ok (.bl b) := nr rfl
@[simp] theorem ev_non : ev fn gl .non δ = .ok .non := nr rfl
@[simp] theorem ev_glb {x : Str} : ev fn gl (.glb x) δ = .opt (gl x) := nr rfl
@[simp] theorem ev_bin {o : Bop} {a b : E} : ev fn gl (.bin o a b) δ = (ev fn gl a δ).bind fun x => (ev fn gl b δ).bind fun y => binD o x y := nr rfl
@[simp] theorem ev_neg {a : E} : ev fn gl (.neg a) δ = (ev fn gl a δ).bind negD := nr rfl
@[simp] theorem ev_cmp {o : Cop} {a b : E} : ev fn gl (.cmp o a b) δ = (ev fn gl a δ).bind fun x => (ev fn gl b δ).bind fun y => cmpD o x y := nr rfl
@[simp] theorem ev_and {a b : E} : ev fn gl (.and_ a b) δ = (ev fn gl a δ).bind fun x => cndD x (ev fn gl b δ) (.ok (.bl false)) := nr rfl
@[simp] theorem ev_or {a b : E} : ev fn gl (.or_ a b) δ = (ev fn gl a δ).bind fun x => cndD x (.ok (.bl true)) (ev fn gl b δ) := nr rfl
@[simp] theorem ev_one {a : E} : ev fn gl (.one a) δ = ev fn gl a δ := nr rfl
@[simp] theorem ev_not {a : E} : ev fn gl (.not_ a) δ = (ev fn gl a δ).bind notD := nr rfl
@[simp] theorem ev_ite {c a b : E} : ev fn gl (.ite c a b) δ = (ev fn gl c δ).bind fun x => cndD x (ev fn gl a δ) (ev fn gl b δ) := nr rfl
@[simp] theorem ev_ix {a b : E} : ev fn gl (.ix a b) δ = (ev fn gl a δ).bind fun x => (ev fn gl b δ).bind fun y => ixD x y := nr rfl
@[simp] theorem ev_sl {a lo hi : E} : ev fn gl (.sl a lo hi) δ = (ev fn gl a δ).bind fun x => (partOf lo.isNon (ev fn gl lo δ)).bind fun l => (partOf hi.isNon (ev fn gl hi δ)).bind fun h => slD x l h := nr rfl
@[simp] theorem ev_rv {a : E} : ev fn gl (.rv a) δ = (ev fn gl a δ).bind rvD := nr rfl
@[simp] theorem ev_nil : ev fn gl .nil δ = .ok (.tup []) := nr rfl
@[simp] theorem ev_knil : ev fn gl .knil δ = .ok (.tup []) := nr rfl
@[simp] theorem ev_cons {a r : E} : ev fn gl (.cons a r) δ = (ev fn gl a δ).bind fun x => (ev fn gl r δ).bind fun xs => .ok (.tup (x :: unT xs)) := nr rfl
@[simp] theorem ev_kcons {a r : E} : ev fn gl (.kcons a r) δ = ((ev fn gl a δ).bind (vlD a.view)).bind fun x => (ev fn gl r δ).bind fun xs => .ok (.tup (x :: unT xs)) := nr rfl
@[simp] theorem ev_tup {es : E} : ev fn gl (.tup es) δ = (ev fn gl es δ).bind tupD := nr rfl
@[simp] theorem ev_lst {es : E} : ev fn gl (.lst es) δ = (ev fn gl es δ).bind lstD := nr rfl
@[simp] theorem ev_call {f : Str} {es : E} : ev fn gl (.call f es) δ = callD (fn f) (ev fn gl es δ) := nr rfl
@[simp] theorem callD_some {F : List D → Res D} {r : Res D} : callD (some F) r = r.bind fun x => lend F (unT x) := nr rfl
@[simp] theorem ev_blt {b : Blt} {es : E} : ev fn gl (.blt b es) δ = (ev fn gl es δ).bind fun x => bltD b (unT x) := nr rfl
@[simp] theorem ev_isi {a : E} {t : Str} : ev fn gl (.isi a t) δ = (ev fn gl a δ).bind fun x => isiD x t := nr rfl
@[simp] theorem ev_mth {m : Mth} {o a : E} : ev fn gl (.mth m o a) δ = (ev fn gl o δ).bind fun x => strK x ((ev fn gl a δ).bind fun y => mthD m x y) := nr rfl
@[simp] theorem ev_lc {own : List Nat} {tg : Tg} {src c e : E} : ev fn gl (.lc own tg src c e) δ = (ev fn gl src δ).bind fun s => lcD s fun xs => lcGo (fun x => bindTg tg x (wipeD δ own)) (ev fn gl c) (ev fn gl e) e.view xs [] := nr rfl
@[simp] theorem ev_rng1 {a : E} : ev fn gl (.rng1 a) δ = (ev fn gl a δ).bind rng1D := nr rfl
@[simp] theorem ev_rng2 {a b : E} : ev fn gl (.rng2 a b) δ = (ev fn gl a δ).bind fun x => (ev fn gl b δ).bind fun y => rng2D x y := nr rfl
@[simp] theorem ev_zip2 {a b : E} : ev fn gl (.zip2 a b) δ = ((ev fn gl a δ).bind (vlD a.view)).bind fun x => ((ev fn gl b δ).bind (vlD b.view)).bind fun y => zip2D x y := nr rfl
@[simp] theorem ev_enum {a : E} : ev fn gl (.enum a) δ = ((ev fn gl a δ).bind (vlD a.view)).bind enumD := nr rfl
@[simp] theorem ev_revd {a : E} : ev fn gl (.revd a) δ = ((ev fn gl a δ).bind (vlD a.view)).bind revdD := nr rfl
@[simp] theorem ev_rng3 {a b : E} : ev fn gl (.rng3 a b) δ = (ev fn gl a δ).bind fun x => (ev fn gl b δ).bind fun y => rng3D x y := nr rfl
@[simp] theorem ev_zip3 {a b c : E} : ev fn gl (.zip3 a b c) δ = ((ev fn gl a δ).bind (vlD a.view)).bind fun x => ((ev fn gl b δ).bind (vlD b.view)).bind fun y => ((ev fn gl c δ).bind (vlD c.view)).bind fun z => zip3D x y z := nr rfl
@[simp] theorem ev_dnk : ev fn gl (.dn false) δ = .ok (.box true (.dk []) []) := nr rfl
@[simp] theorem ev_dnt : ev fn gl (.dn true) δ = .ok (.box true (.dt []) []) := nr rfl
def getK (d : D) (b : Bool) (k x : Res D) : Res D := if b then k.bind fun y => x.bind fun z => getD d y z else .stuck
@[simp] theorem ev_get {o k x : E} : ev fn gl (.get o k x) δ = (ev fn gl o δ).bind fun d => getK d (isDct d) (ev fn gl k δ) (ev fn gl x δ) := nr rfl
@[simp] theorem getK_t {d : D} {k x : Res D} : getK d true k x = k.bind fun y => x.bind fun z => getD d y z := nr rfl
@[simp] theorem isDct_dk {o : Bool} {ks : List Key} {ds : List D} : isDct (.box o (.dk ks) ds) = true := nr rfl
@[simp] theorem isDct_dt {o : Bool} {ks : List (List Key)} {ds : List D} : isDct (.box o (.dt ks) ds) = true := nr rfl
@[simp] theorem ev_fz {a : E} : ev fn gl (.fz a) δ = (ev fn gl a δ).bind fun d => .ok d.frz := nr rfl
@[simp] theorem ev_mz {m : Mz} {o : E} : ev fn gl (.mz m o) δ = (ev fn gl o δ).bind fun x => strK x (mzD m x) := nr rfl
@[simp] theorem dget_dk {o : Bool} {ks : List Key} {ds : List D} {k : D} : dgetD (.box o (.dk ks) ds) k = (keyD k).map fun k => dval ks ds k := nr rfl
@[simp] theorem dget_dt {o : Bool} {ks : List (List Key)} {ds xs : List D} : dgetD (.box o (.dt ks) ds) (.tup xs) = (keysD xs).map fun k => dval ks ds k := nr rfl
@[simp] theorem dget_dtn {o : Bool} {ks : List (List Key)} {ds : List D} : dgetD (.box o (.dt ks) ds) .non = none := nr rfl
def getR (x : D) (b : Bool) : Option (Option D) → Res D
  | some r => .ok (r.getD x)
  | none => if b then .ok x else .stuck
@[simp] theorem getD_eq {o k x : D} : getD o k x = getR x (noneT o k) (dgetD o k) := by
  unfold getR
  rfl
@[simp] theorem getR_some {x : D} {b : Bool} {r : Option D} : getR x b (some r) = .ok (r.getD x) := nr rfl
@[simp] theorem getR_none {x : D} : getR x true none = .ok x := nr rfl
@[simp] theorem noneT_dt {o : Bool} {ks : List (List Key)} {ds : List D} : noneT (.box o (.dt ks) ds) .non = true := nr rfl
@[simp] theorem ev_skeys {a : E} : ev fn gl (.skeys a) δ = (ev fn gl a δ).bind skeysD := nr rfl
@[simp] theorem skeys_dt {o : Bool} {ks : List (List Key)} {ds : List D} : skeysD (.box o (.dt ks) ds) = .opt ((prKs ks).map fun ps => .box true .lst ((sortP ps).map prD)) := nr rfl
@[simp] theorem ev_lix {t : Bool} {o a : E} : ev fn gl (.lix t o a) δ = (ev fn gl o δ).bind fun x => lixK t x ((ev fn gl a δ).bind fun y => lixD t x y) := nr rfl
@[simp] theorem lixK_lst {o : Bool} {xs : List D} {k : Res D} : lixK false (.box o .lst xs) k = k := nr rfl
@[simp] theorem lixK_ctup {xs : List Str} {k : Res D} : lixK true (.ctup xs) k = k := nr rfl
@[simp] theorem lixD_lst {o : Bool} {xs : List D} {b : Str} : lixD false (.box o .lst xs) (.str b) = .opt ((idxB xs b).map fun j => .int (j : Nat)) := nr rfl
@[simp] theorem lixD_ctup {xs : List Str} {b : Str} : lixD true (.ctup xs) (.str b) = .opt ((xs.findIdx? fun y => decide (y = b)).map fun j => .int (j : Nat)) := nr rfl
@[simp] theorem bind_ok {α β : Type} {a : α} {f : α → Res β} : (Res.ok a).bind f = f a := nr rfl
@[simp] theorem bind_exc {α β : Type} {c : Str} {fs : List D} {f : α → Res β} : (Res.exc c fs).bind f = .exc c fs := nr rfl
@[simp] theorem bind_stuck {α β : Type} {f : α → Res β} : (Res.stuck).bind f = .stuck := nr rfl
@[simp] theorem opt_some {α : Type} {a : α} : Res.opt (some a) = .ok a := nr rfl
@[simp] theorem unT_tup {xs : List D} : unT (.tup xs) = xs := nr rfl
@[simp] theorem cnd_t {a b : Res D} : cndD (.bl true) a b = a := nr rfl
@[simp] theorem cnd_f {a b : Res D} : cndD (.bl false) a b = b := nr rfl
@[simp] theorem cnd_d {p : Prop} [Decidable p] {a b : Res D} : cndD (.bl (decide p)) a b = if p then a else b := by by_cases h : p <;> simp [h]
@[simp] theorem cndO_t {a b : Out} : cndO (.bl true) a b = a := nr rfl
@[simp] theorem cndO_f {a b : Out} : cndO (.bl false) a b = b := nr rfl
@[simp] theorem cndO_d {p : Prop} [Decidable p] {a b : Out} : cndO (.bl (decide p)) a b = if p then a else b := by by_cases h : p <;> simp [h]
@[simp] theorem not_bl {b : Bool} : notD (.bl b) = .ok (.bl (!b)) := nr rfl
@[simp] theorem neg_int {b : Int} : negD (.int b) = .ok (.int (-b)) := nr rfl
@[simp] theorem strK_str {z : Str} {k : Res D} : strK (.str z) k = k := nr rfl
@[simp] theorem out_ok {d : D} {f : D → Out} : (Res.ok d).out δ f = f d := nr rfl
@[simp] theorem out_exc {c : Str} {fs : List D} {f : D → Out} : (Res.exc c fs).out δ f = .exc c fs δ := nr rfl
@[simp] theorem thn_nx {f : List D → Out} : (Out.nx δ).thn f = f δ := nr rfl
@[simp] theorem thn_bk {f : List D → Out} : (Out.bk δ).thn f = .bk δ := nr rfl
@[simp] theorem thn_ct {f : List D → Out} : (Out.ct δ).thn f = .ct δ := nr rfl
@[simp] theorem thn_rt {d : D} {f : List D → Out} : (Out.rt d).thn f = .rt d := nr rfl
@[simp] theorem thn_exc {c : Str} {fs : List D} {f : List D → Out} : (Out.exc c fs δ).thn f = .exc c fs δ := nr rfl
@[simp] theorem fin_nx : (Out.nx δ).fin = .ok .non := nr rfl
@[simp] theorem fin_rt {d : D} : (Out.rt d).fin = .ok d := nr rfl
@[simp] theorem fin_exc {c : Str} {fs : List D} : (Out.exc c fs δ).fin = .exc c fs := nr rfl
@[simp] theorem ex_skip : exec fn gl ex .skip δ = .nx δ := nr rfl
@[simp] theorem ex_seq {a b : S} : exec fn gl ex (.seq a b) δ = (exec fn gl ex a δ).thn (exec fn gl ex b) := nr rfl
@[simp] theorem ex_asg {i : Nat} {e : E} : exec fn gl ex (.asg i e) δ = ((ev fn gl e δ).bind (vlD e.view)).out δ fun d => .nx (δ.set i d) := nr rfl
def asgtO (δ : List D) (is : List Nat) (d : D) : Out := match d with
  | .tup xs => if xs.length = is.length then .nx (setAll δ is xs) else .stuck
  | _ => .stuck
@[simp] theorem ex_asgt {is : List Nat} {e : E} : exec fn gl ex (.asgt is e) δ = ((ev fn gl e δ).bind (vlD e.view)).out δ (asgtO δ is) := nr rfl
@[simp] theorem asgtO_tup {is : List Nat} {xs : List D} : asgtO δ is (.tup xs) = if xs.length = is.length then .nx (setAll δ is xs) else .stuck := nr rfl
def appO (δ : List D) (i : Nat) (r : Res D) : Option D → Out
  | some (.box true .lst xs) => r.out δ fun d => if xs.length < sizeLine then .nx (δ.set i (.box true .lst (xs ++ [d]))) else .stuck
  | _ => .stuck
@[simp] theorem ex_app {i : Nat} {e : E} : exec fn gl ex (.app i e) δ = appO δ i ((ev fn gl e δ).bind (vlD e.view)) δ[i]? := by
  unfold appO
  rfl
@[simp] theorem appO_lst {i : Nat} {r : Res D} {xs : List D} : appO δ i r (some (.box true .lst xs)) = r.out δ fun d => if xs.length < sizeLine then .nx (δ.set i (.box true .lst (xs ++ [d]))) else .stuck := nr rfl
def putO (δ : List D) (i : Nat) (mk : List D → Res D) (mp : D → Res (List Nat)) (d : D) : Option D → Out
  | none => .stuck
  | some .dead => .stuck
  | some c => putP mk δ i d c (mp c)
@[simp] theorem ex_put {i : Nat} {p : List E} {k e : E} : exec fn gl ex (.put i p k e) δ = ((ev fn gl e δ).bind (vlD e.view)).out δ fun d => putO δ i (ev fn gl k) (pthD fn gl p δ) d δ[i]? := by
  unfold putO
  rfl
@[simp] theorem putO_box {i : Nat} {mk : List D → Res D} {mp : D → Res (List Nat)} {d : D} {o : Bool} {k : Kind} {xs : List D} : putO δ i mk mp d (some (.box o k xs)) = putP mk δ i d (.box o k xs) (mp (.box o k xs)) := nr rfl
@[simp] theorem putO_tup {i : Nat} {mk : List D → Res D} {mp : D → Res (List Nat)} {d : D} {xs : List D} : putO δ i mk mp d (some (.tup xs)) = putP mk δ i d (.tup xs) (mp (.tup xs)) := nr rfl
/-- what is then at the path -/
def putA (mk : List D → Res D) (δ : List D) (i : Nat) (d c : D) (js : List Nat) : Option D → Out
  | none => .stuck
  | some b => (mk δ).out δ (putGo c js δ i b d)
@[simp] theorem putP_ok {mk : List D → Res D} {i : Nat} {d c : D} {js : List Nat} : putP mk δ i d c (.ok js) = putA mk δ i d c js (atP c js) := by
  unfold putA
  rfl
@[simp] theorem putA_some {mk : List D → Res D} {i : Nat} {d c b : D} {js : List Nat} : putA mk δ i d c js (some b) = (mk δ).out δ (putGo c js δ i b d) := nr rfl
def putN (c : D) (js : List Nat) (δ : List D) (i : Nat) : Option D → Out
  | some b' => .nx (δ.set i (setP c js b'))
  | none => .stuck
@[simp] theorem putGo_eq {c : D} {js : List Nat} {i : Nat} {b d y : D} : putGo c js δ i b d y = putN c js δ i (putB b y d) := by
  unfold putN
  rfl
@[simp] theorem putN_some {c : D} {js : List Nat} {i : Nat} {b : D} : putN c js δ i (some b) = .nx (δ.set i (setP c js b)) := nr rfl
@[simp] theorem putB_lst {xs : List D} {n : Int} {d : D} : putB (.box true .lst xs) (.int n) d = (ixN xs.length n).map fun j => .box true .lst (xs.set j d) := nr rfl
@[simp] theorem putB_dk {ks : List Key} {ds : List D} {k d : D} : putB (.box true (.dk ks) ds) k d = (keyD k).bind fun k => if ks.length < sizeLine ∧ D.nos ds = true then some (.box true (.dk (putKs ks k)) (putDs ks ds k d.frz)) else none := nr rfl
@[simp] theorem putB_dt {ks : List (List Key)} {ds xs : List D} {d : D} : putB (.box true (.dt ks) ds) (.tup xs) d = (keysD xs).bind fun k => if ks.length < sizeLine ∧ D.nos ds = true then some (.box true (.dt (putKs ks k)) (putDs ks ds k d.frz)) else none := nr rfl
@[simp] theorem keyD_int {i : Int} : keyD (.int i) = some (.inl i) := nr rfl
@[simp] theorem keyD_str {i : Str} : keyD (.str i) = some (.inr i) := nr rfl
@[simp] theorem keysD_nil : keysD [] = some [] := nr rfl
@[simp] theorem keysD_int {i : Int} {ds : List D} : keysD (.int i :: ds) = (keysD ds).map (.inl i :: ·) := by
  show (match keyD (.int i), keysD ds with
    | some k, some ks => some (k :: ks)
    | _, _ => none) = _
  cases keysD ds <;> rfl
@[simp] theorem keysD_str {i : Str} {ds : List D} : keysD (.str i :: ds) = (keysD ds).map (.inr i :: ·) := by
  show (match keyD (.str i), keysD ds with
    | some k, some ks => some (k :: ks)
    | _, _ => none) = _
  cases keysD ds <;> rfl
@[simp] theorem setP_nil {d e : D} : setP d [] e = e := nr rfl
def setK (d : D) (j : Nat) (js : List Nat) (e : D) : Option D → D
  | some d' => putD d j (setP d' js e)
  | none => d
@[simp] theorem setP_cons {d e : D} {j : Nat} {js : List Nat} : setP d (j :: js) e = setK d j js e (kidD d j) := by
  unfold setK
  rw [setP] <;> rfl
@[simp] theorem setK_some {d d' e : D} {j : Nat} {js : List Nat} : setK d j js e (some d') = putD d j (setP d' js e) := nr rfl
@[simp] theorem atP_nil {d : D} : atP d [] = some d := nr rfl
@[simp] theorem atP_cons {d : D} {j : Nat} {js : List Nat} : atP d (j :: js) = (kidD d j).bind fun d' => atP d' js := by rw [atP]
@[simp] theorem putD_box {o : Bool} {k : Kind} {xs : List D} {j : Nat} {d : D} : putD (.box o k xs) j d = .box o k (xs.set j d) := nr rfl
@[simp] theorem putD_tup {xs : List D} {j : Nat} {d : D} : putD (.tup xs) j d = .tup (xs.set j d) := nr rfl
@[simp] theorem kidD_box {k : Kind} {xs : List D} {j : Nat} : kidD (.box true k xs) j = xs[j]? := nr rfl
@[simp] theorem kidD_tup {xs : List D} {j : Nat} : kidD (.tup xs) j = xs[j]? := nr rfl
@[simp] theorem stpD_lst {xs : List D} {n : Int} : stpD (.box true .lst xs) (.int n) = ixN xs.length n := nr rfl
@[simp] theorem stpD_tup {xs : List D} {n : Int} : stpD (.tup xs) (.int n) = ixN xs.length n := nr rfl
@[simp] theorem stpD_dk {ks : List Key} {xs : List D} {n : Int} : stpD (.box true (.dk ks) xs) (.int n) = ks.findIdx? fun k => decide (k = .inl n) := nr rfl
@[simp] theorem stpD_dks {ks : List Key} {xs : List D} {n : Str} : stpD (.box true (.dk ks) xs) (.str n) = ks.findIdx? fun k => decide (k = .inr n) := nr rfl
@[simp] theorem pth_nil {d : D} : pthD fn gl [] δ d = .ok [] := nr rfl
def pthQ (go : D → Res (List Nat)) (j : Nat) : Option D → Res (List Nat)
  | none => .stuck
  | some d' => (go d').bind fun js => .ok (j :: js)
def pthN (go : D → Res (List Nat)) (d : D) : Option Nat → Res (List Nat)
  | none => .stuck
  | some j => pthQ go j (kidD d j)
@[simp] theorem pth_cons {e : E} {es : List E} {d : D} : pthD fn gl (e :: es) δ d = (ev fn gl e δ).bind fun y => pthN (pthD fn gl es δ) d (stpD d y) := by
  unfold pthN pthQ
  rw [pthD] <;> rfl
@[simp] theorem pthN_some {go : D → Res (List Nat)} {d : D} {j : Nat} : pthN go d (some j) = pthQ go j (kidD d j) := nr rfl
@[simp] theorem pthQ_some {go : D → Res (List Nat)} {d : D} {j : Nat} : pthQ go j (some d) = (go d).bind fun js => .ok (j :: js) := nr rfl
@[simp] theorem ex_kill {i : Nat} : exec fn gl ex (.kill i) δ = .nx (δ.set i .dead) := nr rfl
@[simp] theorem ex_xasg {i : Nat} {x : X} : exec fn gl ex (.xasg i x) δ = (evx fn gl x δ).out fun d δ => .nx (δ.set i d) := nr rfl
@[simp] theorem ex_xasgt {is : List Nat} {x : X} : exec fn gl ex (.xasgt is x) δ = (evx fn gl x δ).out fun d δ => asgtO δ is d := by
  unfold asgtO
  rfl
@[simp] theorem ex_xdrop {x : X} : exec fn gl ex (.xdrop x) δ = (evx fn gl x δ).out fun _ δ => .nx δ := nr rfl
@[simp] theorem rxout_ok {d : D} {f : D → List D → Out} : (RX.ok d δ).out f = f d δ := nr rfl
@[simp] theorem rxopt_some {p : D × List D} : RX.opt (some p) = .ok p.1 p.2 := nr rfl
def mutB (d : D) (i : Nat) (js : List Nat) (m : Mop) (r : Res D) (δ : List D) : Option D → RX
  | none => .stuck
  | some b => if isOwn b then (match r with
        | .ok x => RX.opt ((mopD m b (unT x)).map fun r => (r.1, δ.set i (setP d js r.2)))
        | .exc c fs => .exc c fs δ
        | .stuck => .stuck) else .stuck
def mutJ (d : D) (i : Nat) (m : Mop) (r : Res D) (δ : List D) : Res (List Nat) → RX
  | .ok js => mutB d i js m r δ (atP d js)
  | .exc c fs => .exc c fs δ
  | .stuck => .stuck
def mutO (mp : D → Res (List Nat)) (i : Nat) (m : Mop) (r : Res D) (δ : List D) : Option D → RX
  | none => .stuck
  | some .dead => .stuck
  | some d => mutJ d i m r δ (mp d)
@[simp] theorem evx_mut {i : Nat} {p : List E} {m : Mop} {args : E} : evx fn gl (.mut i p m args) δ = mutO (pthD fn gl p δ) i m (ev fn gl args δ) δ δ[i]? := by
  show mutR fn gl i p m args δ = _
  unfold mutR mutO mutJ mutB
  rfl
@[simp] theorem mutO_box {mp : D → Res (List Nat)} {i : Nat} {m : Mop} {r : Res D} {o : Bool} {k : Kind} {xs : List D} : mutO mp i m r δ (some (.box o k xs)) = mutJ (.box o k xs) i m r δ (mp (.box o k xs)) := nr rfl
@[simp] theorem mutO_tup {mp : D → Res (List Nat)} {i : Nat} {m : Mop} {r : Res D} {xs : List D} : mutO mp i m r δ (some (.tup xs)) = mutJ (.tup xs) i m r δ (mp (.tup xs)) := nr rfl
@[simp] theorem mutJ_ok {d : D} {i : Nat} {m : Mop} {r : Res D} {js : List Nat} : mutJ d i m r δ (.ok js) = mutB d i js m r δ (atP d js) := nr rfl
@[simp] theorem mutB_lst {d x : D} {i : Nat} {m : Mop} {js : List Nat} {xs : List D} : mutB d i js m (.ok x) δ (some (.box true .lst xs)) = RX.opt ((mopD m (.box true .lst xs) (unT x)).map fun r => (r.1, δ.set i (setP d js r.2))) := nr rfl
def ret2O : Option D → Option D → Out
  | some .dead, _ => .stuck
  | _, some .dead => .stuck
  | some a, some b => .rt (.tup [a, b])
  | _, _ => .stuck
@[simp] theorem ex_ret2 {i j : Nat} (h : i ≠ j) : exec fn gl ex (.ret2 i j) δ = ret2O δ[i]? δ[j]? := by
  show (if i = j then Out.stuck else _) = _
  rw [if_neg h]
  unfold ret2O
  rfl
@[simp] theorem ret2O_box {o p : Bool} {k l : Kind} {xs ys : List D} : ret2O (some (.box o k xs)) (some (.box p l ys)) = .rt (.tup [.box o k xs, .box p l ys]) := nr rfl
/-- a value moved into a list -/
def mvO (f : D → RX) : Option D → RX
  | none => .stuck
  | some .dead => .stuck
  | some d => f d
@[simp] theorem mvO_box {f : D → RX} {o : Bool} {k : Kind} {xs : List D} : mvO f (some (.box o k xs)) = f (.box o k xs) := nr rfl
@[simp] theorem mvO_tup {f : D → RX} {xs : List D} : mvO f (some (.tup xs)) = f (.tup xs) := nr rfl
@[simp] theorem mvO_str {f : D → RX} {x : Str} : mvO f (some (.str x)) = f (.str x) := nr rfl
@[simp] theorem mvO_int {f : D → RX} {x : Int} : mvO f (some (.int x)) = f (.int x) := nr rfl
@[simp] theorem mvO_bl {f : D → RX} {x : Bool} : mvO f (some (.bl x)) = f (.bl x) := nr rfl
@[simp] theorem mvO_non {f : D → RX} : mvO f (some .non) = f .non := nr rfl
def deadX (j : Nat) : RX → RX
  | .ok d δ => .ok d (δ.set j .dead)
  | r => r
@[simp] theorem deadX_ok {j : Nat} {d : D} : deadX j (.ok d δ) = .ok d (δ.set j .dead) := nr rfl
@[simp] theorem evx_mutm {i j : Nat} {p : List E} : evx fn gl (.mutm i p j) δ = mvO (fun y => deadX j (mutO (pthD fn gl p δ) i .app (.ok (.tup [y])) δ δ[i]?)) δ[j]? := by
  show mutmR fn gl i p j δ = _
  unfold mutmR mvO
  cases e : δ[j]? with
  | none => rfl
  | some y =>
    have key : (match δ[i]? with
        | none => RX.stuck
        | some .dead => .stuck
        | some d => match pthD fn gl p δ d with
          | .ok js => (match atP d js with
            | none => .stuck
            | some b => if isOwn b then RX.opt ((mopD .app b [y]).map fun r => (r.1, (δ.set i (setP d js r.2)).set j .dead)) else .stuck)
          | .exc c fs => .exc c fs δ
          | .stuck => .stuck) = deadX j (mutO (pthD fn gl p δ) i .app (.ok (.tup [y])) δ δ[i]?) := by
      unfold mutO
      split
      · rfl
      · rfl
      · unfold mutJ
        split
        · unfold mutB
          split
          · rfl
          · rename_i b _
            split
            · show RX.opt ((mopD .app b [y]).map _) = deadX j (RX.opt ((mopD .app b [y]).map _))
              cases mopD .app b [y] with
              | none => rfl
              | some r => rfl
            · rfl
        · rfl
        · rfl
    cases y <;> first | exact key | rfl
theorem splGo_all {i x : Nat} {m : Mop} {args : E} {as : List D} {f : D → D} (hi : i ≠ x) (hil : i < δ.length) (ha : ∀ zs, ev fn gl args (δ.set i (.box true .lst zs)) = .ok (.tup as)) : ∀ (rest done : List D), (∀ b ∈ rest, isOwn b = true ∧ ∃ r, mopD m b as = some (r, f b)) →
    splGo fn gl i m args rest.length done.length (δ.set i (.box true .lst (done ++ rest))) = .nx (δ.set i (.box true .lst (done ++ rest.map f)))
  | [], done, _ => by simp [splGo]
  | b :: rest, done, h => by
    obtain ⟨h1, r, h2⟩ := h b (by simp)
    rw [List.length_cons]
    unfold splGo
    rw [List.getElem?_set_self hil]
    dsimp only
    have e1 : (done ++ b :: rest)[done.length]? = some b := by simp
    rw [e1]
    dsimp only
    rw [if_pos h1, ha]
    dsimp only
    have e2 : unT (.tup as) = as := rfl
    rw [e2, h2]
    dsimp only
    have e3 : (done ++ b :: rest).set done.length (f b) = (done ++ [f b]) ++ rest := by simp
    have e4 := splGo_all hi hil ha rest (done ++ [f b]) fun b' hb => h b' (List.mem_cons_of_mem _ hb)
    rw [List.set_set, e3]
    rw [List.length_append] at e4
    rw [show done.length + 1 = done.length + [f b].length from rfl, e4]
    simp
theorem spl_ok {i x : Nat} {m : Mop} {args : E} {as ys : List D} {f : D → D} (hi : i ≠ x) (hx : x < δ.length) (e : δ[i]? = some (.box true .lst ys)) (ha : ∀ zs, ev fn gl args ((δ.set x .dead).set i (.box true .lst zs)) = .ok (.tup as)) (hf : ∀ b ∈ ys, isOwn b = true ∧ ∃ r, mopD m b as = some (r, f b)) :
    exec fn gl ex (.spl x i m args) δ = .nx ((δ.set x .dead).set i (.box true .lst (ys.map f))) := by
  have hil := (List.getElem?_eq_some_iff.mp e).1
  show (if i = x ∨ δ.length ≤ x then .stuck else match δ[i]? with
    | some (.box true .lst ys) => splGo fn gl i m args ys.length 0 (δ.set x .dead)
    | _ => .stuck) = _
  rw [if_neg (by omega), e]
  dsimp only
  have h := splGo_all (δ := δ.set x .dead) hi (by rw [List.length_set]; exact hil) ha ys [] hf
  have e0 : (δ.set x .dead).set i (.box true .lst ([] ++ ys)) = δ.set x .dead := by
    refine List.ext_getElem? fun j => ?_
    by_cases hj : i = j
    · subst hj
      rw [List.getElem?_set_self (by rw [List.length_set]; exact hil), List.getElem?_set_ne (fun z => hi z.symm), e]
      rfl
    · rw [List.getElem?_set_ne hj]
  rw [e0] at h
  simpa using h
@[simp] theorem mop_app {xs : List D} {d : D} : mopD .app (.box true .lst xs) [d] = if xs.length < sizeLine then some (.non, .box true .lst (xs ++ [d])) else none := nr rfl
@[simp] theorem mop_pop {xs : List D} : mopD .pop (.box true .lst xs) [] = (xs.getLast?).map fun d => (d, .box true .lst xs.dropLast) := nr rfl
@[simp] theorem mop_clear {xs : List D} : mopD .clear (.box true .lst xs) [] = some (.non, .box true .lst []) := nr rfl
@[simp] theorem mop_popAt {xs : List D} {i : Int} (h : -(2 ^ 40) ≤ i ∧ i < 2 ^ 40) : mopD .popAt (.box true .lst xs) [.int i] = (ixN xs.length i).bind fun j => (xs[j]?).map fun d => (d, .box true .lst (xs.eraseIdx j)) := if_pos (by omega)
@[simp] theorem mop_ins {xs : List D} {i : Int} {d : D} (h : 0 ≤ i ∧ i ≤ xs.length ∧ xs.length < sizeLine) : mopD .ins (.box true .lst xs) [.int i, d] = some (.non, .box true .lst (xs.take i.toNat ++ d :: xs.drop i.toNat)) := if_pos h
@[simp] theorem ex_ife {c : E} {a b : S} : exec fn gl ex (.ife c a b) δ = (ev fn gl c δ).out δ fun d => cndO d (exec fn gl ex a δ) (exec fn gl ex b δ) := nr rfl
def forO (tg : Tg) (b : List D → Out) (δ : List D) (d : D) : Out := match itemsOf d with
  | none => .stuck
  | some xs => forGo (fun x δ => bindTg tg x δ) b xs δ
@[simp] theorem ex_for {tg : Tg} {src : E} {b : S} : exec fn gl ex (.for_ tg src b) δ = ((ev fn gl src δ).bind (vlD src.view)).out δ (forO tg (exec fn gl ex b) δ) := nr rfl
theorem forO_of {tg : Tg} {b : List D → Out} {d : D} {xs : List D} (h : itemsOf d = some xs) : forO tg b δ d = forGo (fun x δ => bindTg tg x δ) b xs δ := by
  unfold forO
  rw [h]
@[simp] theorem ex_wh {n : Nat} {c : E} {b : S} : exec fn gl ex (.wh n c b) δ = whGo (ev fn gl c) (exec fn gl ex b) n δ := nr rfl
@[simp] theorem ex_ret {e : E} : exec fn gl ex (.ret e) δ = ((ev fn gl e δ).bind (vlD e.view)).out δ .rt := nr rfl
def retO : Option D → Out
  | some .dead => .stuck
  | some d => .rt d
  | none => .stuck
@[simp] theorem ex_retv {i : Nat} : exec fn gl ex (.retv i) δ = retO δ[i]? := nr rfl
@[simp] theorem retO_non : retO (some .non) = .rt .non := nr rfl
@[simp] theorem retO_bl {b : Bool} : retO (some (.bl b)) = .rt (.bl b) := nr rfl
@[simp] theorem retO_int {b : Int} : retO (some (.int b)) = .rt (.int b) := nr rfl
@[simp] theorem retO_str {b : Str} : retO (some (.str b)) = .rt (.str b) := nr rfl
@[simp] theorem retO_ctup {b : List Str} : retO (some (.ctup b)) = .rt (.ctup b) := nr rfl
@[simp] theorem retO_tup {b : List D} : retO (some (.tup b)) = .rt (.tup b) := nr rfl
@[simp] theorem retO_box {o : Bool} {k : Kind} {b : List D} : retO (some (.box o k b)) = .rt (.box o k b) := nr rfl
@[simp] theorem ex_retN : exec fn gl ex .retN δ = .rt .non := nr rfl
@[simp] theorem ex_brk : exec fn gl ex .brk δ = .bk δ := nr rfl
@[simp] theorem ex_cont : exec fn gl ex .cont δ = .ct δ := nr rfl
@[simp] theorem ex_drop {e : E} : exec fn gl ex (.drop e) δ = (ev fn gl e δ).out δ fun _ => .nx δ := nr rfl
@[simp] theorem ex_rse {c : Str} : exec fn gl ex (.rse c) δ = if ex.rs.contains c then .exc c [] δ else .stuck := nr rfl
@[simp] theorem ex_try {b : S} {c : Str} {i : Nat} {e : E} : exec fn gl ex (.try_ b c i e) δ = if ex.es.contains c && ex.cx then tryO ex c (fun c' δ => hotR ((ev fn gl e (δ.set i (.exv c' []))).bind (vlD e.view))) (exec fn gl ex b δ) else .stuck := nr rfl
@[simp] theorem ex_tryN {b : S} {c : Str} : exec fn gl ex (.tryN b c) δ = if ex.es.contains c then tryO ex c (fun _ _ => .rt .non) (exec fn gl ex b δ) else .stuck := nr rfl
@[simp] theorem ex_tryZ {b : S} : exec fn gl ex (.tryZ b) δ = noExc (exec fn gl ex b δ) := nr rfl
@[simp] theorem tryO_on {c : Str} {su : Str → List D → Out} : tryO ex c su (.nx δ) = .nx δ := nr rfl
@[simp] theorem tryO_rt {c : Str} {su : Str → List D → Out} {d : D} : tryO ex c su (.rt d) = .rt d := nr rfl
@[simp] theorem tryO_exc {c c' : Str} {su : Str → List D → Out} (h : c' ∈ ex.rs) : tryO ex c su (.exc c' [] δ) = if subX c' c then su c' δ else .exc c' [] δ := by
  show (if ex.rs.contains c' && ([] : List D).isEmpty then (if subX c' c then su c' δ else .exc c' [] δ) else .stuck) = _
  rw [show ex.rs.contains c' = true by simpa using h]
  rfl
@[simp] theorem noExc_nx : noExc (.nx δ) = .nx δ := nr rfl
@[simp] theorem noExc_rt {d : D} : noExc (.rt d) = .rt d := nr rfl
@[simp] theorem hotR_ok {d : D} (h : d.cl = true) : hotR (.ok d) = .rt d := if_pos h
@[simp] theorem cl_str {x : Str} : D.cl (.str x) = true := by unfold D.cl; rfl
@[simp] theorem cl_non : D.cl .non = true := by unfold D.cl; rfl
@[simp] theorem cl_tup {xs : List D} : D.cl (.tup xs) = D.cls xs := by rw [D.cl]
@[simp] theorem cl_box {o : Bool} {k : Kind} {xs : List D} : D.cl (.box o k xs) = D.cls xs := by rw [D.cl]
@[simp] theorem cls_nil : D.cls [] = true := by unfold D.cls; rfl
@[simp] theorem cls_cons {x : D} {xs : List D} : D.cls (x :: xs) = (x.cl && D.cls xs) := by rw [D.cls]
@[simp] theorem no_exv {c : Str} {fs : List D} : D.no (.exv c fs) = true := by unfold D.no; rfl
@[simp] theorem sub_be {c : Str} : subX c "BandError" = true := by unfold subX; simp
def frzO (δ : List D) (i : Nat) : Option D → Out
  | some d => .nx (δ.set i d.frz)
  | none => .stuck
@[simp] theorem ex_frz {i : Nat} : exec fn gl ex (.frz i) δ = frzO δ i δ[i]? := nr rfl
@[simp] theorem frzO_some {i : Nat} {d : D} : frzO δ i (some d) = .nx (δ.set i d.frz) := nr rfl
end
/-! ### frozen, owned -/
@[simp] theorem frz_non : D.frz .non = .non := by unfold D.frz; rfl
@[simp] theorem frz_dead : D.frz .dead = .dead := by unfold D.frz; rfl
@[simp] theorem frz_bl {b : Bool} : D.frz (.bl b) = .bl b := by unfold D.frz; rfl
@[simp] theorem frz_int {b : Int} : D.frz (.int b) = .int b := by unfold D.frz; rfl
@[simp] theorem frz_str {b : Str} : D.frz (.str b) = .str b := by unfold D.frz; rfl
@[simp] theorem frz_scr {b : List Int} : D.frz (.scr b) = .scr b := by unfold D.frz; rfl
@[simp] theorem frz_ctup {b : List Str} : D.frz (.ctup b) = .ctup b := by unfold D.frz; rfl
@[simp] theorem frz_tup {b : List D} : D.frz (.tup b) = .tup (D.frzs b) := by rw [D.frz]
@[simp] theorem frz_box {o : Bool} {k : Kind} {b : List D} : D.frz (.box o k b) = .box false k (D.frzs b) := by rw [D.frz]
@[simp] theorem frzs_nil : D.frzs [] = [] := by unfold D.frzs; rfl
@[simp] theorem frzs_cons {d : D} {ds : List D} : D.frzs (d :: ds) = d.frz :: D.frzs ds := by rw [D.frzs]
@[simp] theorem no_non : D.no .non = true := by unfold D.no; rfl
@[simp] theorem no_bl {b : Bool} : D.no (.bl b) = true := by unfold D.no; rfl
@[simp] theorem no_int {b : Int} : D.no (.int b) = true := by unfold D.no; rfl
@[simp] theorem no_str {b : Str} : D.no (.str b) = true := by unfold D.no; rfl
@[simp] theorem no_scr {b : List Int} : D.no (.scr b) = true := by unfold D.no; rfl
@[simp] theorem no_ctup {b : List Str} : D.no (.ctup b) = true := by unfold D.no; rfl
@[simp] theorem no_tup {b : List D} : D.no (.tup b) = D.nos b := by rw [D.no]
@[simp] theorem no_box {o : Bool} {k : Kind} {b : List D} : D.no (.box o k b) = (!o && D.nos b) := by rw [D.no]
@[simp] theorem nos_nil : D.nos [] = true := by unfold D.nos; rfl
@[simp] theorem nos_cons {d : D} {ds : List D} : D.nos (d :: ds) = (d.no && D.nos ds) := by rw [D.nos]
@[simp] theorem nos_ints {ns : List Int} : D.nos (ns.map .int) = true := nos_map _ (fun _ => no_int) _
@[simp] theorem nos_app {a b : List D} : D.nos (a ++ b) = (D.nos a && D.nos b) := by
  induction a with
  | nil => simp
  | cons x xs ih => simp [ih, Bool.and_assoc]
@[simp] theorem frzs_ints {ns : List Int} : D.frzs (ns.map .int) = ns.map .int := D.frzs_nos _ nos_ints
@[simp] theorem frzs_app {a b : List D} : D.frzs (a ++ b) = D.frzs a ++ D.frzs b := by
  induction a with
  | nil => simp
  | cons x xs ih => simp [ih]
@[simp] theorem fr_non : D.fr .non = true := by unfold D.fr; rfl
@[simp] theorem fr_bl {b : Bool} : D.fr (.bl b) = true := by unfold D.fr; rfl
@[simp] theorem fr_int {b : Int} : D.fr (.int b) = true := by unfold D.fr; rfl
@[simp] theorem fr_str {b : Str} : D.fr (.str b) = true := by unfold D.fr; rfl
@[simp] theorem fr_ctup {b : List Str} : D.fr (.ctup b) = true := by unfold D.fr; rfl
@[simp] theorem fr_tup {b : List D} : D.fr (.tup b) = D.frs b := by rw [D.fr]
@[simp] theorem fr_box {o : Bool} {k : Kind} {b : List D} : D.fr (.box o k b) = (o && D.frs b) := by rw [D.fr]
@[simp] theorem frs_nil : D.frs [] = true := by unfold D.frs; rfl
@[simp] theorem frs_cons {d : D} {ds : List D} : D.frs (d :: ds) = (d.fr && D.frs ds) := by rw [D.frs]
@[simp] theorem frs_ints {ns : List Int} : D.frs (ns.map .int) = true := by
  induction ns with
  | nil => simp
  | cons x xs ih => simp [ih]
@[simp] theorem lend_no {F : List D → Res D} {ds : List D} (h : D.nos ds = true) : lend F ds = F ds := if_pos h
theorem lend_fr {F : List D → Res D} {ds : List D} {d : D} (h : D.nos ds = false) (e : F (D.frzs ds) = .ok d) (k : d.fr = true) : lend F ds = .ok d := by
  unfold lend
  rw [if_neg (by rw [h]; simp), e]
  simp [k]
@[simp] theorem vl_f {d : D} : vlD false d = .ok d := nr rfl
@[simp] theorem vl_t {d : D} (h : d.no = true) : vlD true d = .ok d := by
  unfold vlD
  rw [h]
  rfl
@[simp] theorem goD_len {fn : Str → Option (List D → Res D)} {gl : Str → Option D} {ex : Xs} {d : Df} {ds : List D} (h : ds.length = d.ps.length) : goD fn gl ex d ds = (exec fn gl ex d.b (ds ++ List.replicate (d.N.length - ds.length) .dead)).fin := if_pos h

/-! ### ops -/
@[simp] theorem add_int {i j : Int} : binD .add (.int i) (.int j) = .ok (.int (i + j)) := nr rfl
@[simp] theorem sub_int {i j : Int} : binD .sub (.int i) (.int j) = .ok (.int (i - j)) := nr rfl
@[simp] theorem mul_int {i j : Int} (h : (-(2 ^ 64) < i ∧ i < 2 ^ 64) ∨ (-(2 ^ 64) < j ∧ j < 2 ^ 64)) : binD .mul (.int i) (.int j) = .ok (.int (i * j)) := if_pos (by omega)
@[simp] theorem fdiv_int {i j : Int} (h : 0 < j ∧ j < 1073741824) : binD .fdiv (.int i) (.int j) = .ok (.int (i / j)) := if_pos h
@[simp] theorem mod_int {i j : Int} (h : 0 < j) : binD .mod (.int i) (.int j) = .ok (.int (i % j)) := if_pos h
@[simp] theorem pow_int {i j : Int} (h : 0 ≤ j ∧ j ≤ 1000000 ∧ i.natAbs < 2 ^ 64) : binD .pow (.int i) (.int j) = .ok (.int (i ^ j.toNat)) := if_pos h
@[simp] theorem add_str {x y : Str} (h : x.length + y.length ≤ sizeLine) : binD .add (.str x) (.str y) = .ok (.str (x ++ y)) := if_pos h
theorem add_lst {o p : Bool} {x y : List D} (h : x.length + y.length ≤ sizeLine ∧ D.nos x = true ∧ D.nos y = true) : binD .add (.box o .lst x) (.box p .lst y) = .ok (.box true .lst (x ++ y)) := if_pos h
@[simp] theorem lt_int {i j : Int} : cmpD .lt (.int i) (.int j) = .ok (.bl (decide (i < j))) := nr rfl
@[simp] theorem le_int {i j : Int} : cmpD .le (.int i) (.int j) = .ok (.bl (decide (i ≤ j))) := nr rfl
@[simp] theorem gt_int {i j : Int} : cmpD .gt (.int i) (.int j) = .ok (.bl (decide (j < i))) := nr rfl
@[simp] theorem ge_int {i j : Int} : cmpD .ge (.int i) (.int j) = .ok (.bl (decide (j ≤ i))) := nr rfl
theorem cmp_eq_of {d e : D} {b : Bool} (h : eqD d e = some b) : cmpD .eq d e = .ok (.bl b) := by
  show Res.opt ((eqQ d e).map D.bl) = _
  unfold eqQ
  rw [h]
  rfl
theorem cmp_eq_len {o p : Bool} {xs ys : List D} (h : eqD (.box o .lst xs) (.box p .lst ys) = none) (hl : xs.length ≠ ys.length) : cmpD .eq (.box o .lst xs) (.box p .lst ys) = .ok (.bl false) := by
  show Res.opt ((eqQ _ _).map D.bl) = _
  unfold eqQ eqL
  rw [h]
  simp only [hl, if_false]
  rfl
@[simp] theorem eq_int {i j : Int} : cmpD .eq (.int i) (.int j) = .ok (.bl (decide (i = j))) := nr rfl
@[simp] theorem eq_str {i j : Str} : cmpD .eq (.str i) (.str j) = .ok (.bl (decide (i = j))) := nr rfl
@[simp] theorem eq_bl {i j : Bool} : cmpD .eq (.bl i) (.bl j) = .ok (.bl (decide (i = j))) := nr rfl
@[simp] theorem eq_non : cmpD .eq .non .non = .ok (.bl true) := nr rfl
@[simp] theorem ne_int {i j : Int} : cmpD .ne (.int i) (.int j) = .ok (.bl (!decide (i = j))) := nr rfl
@[simp] theorem ne_str {i j : Str} : cmpD .ne (.str i) (.str j) = .ok (.bl (!decide (i = j))) := nr rfl
@[simp] theorem is_d {d e : D} : cmpD .is_ d e = .opt ((isD d e).map .bl) := nr rfl
@[simp] theorem isn_d {d e : D} : cmpD .isn d e = .opt ((isD d e).map fun b => .bl (!b)) := nr rfl
@[simp] theorem is_int_n {i : Int} : isD (.int i) .non = some false := nr rfl
@[simp] theorem is_str_n {i : Str} : isD (.str i) .non = some false := nr rfl
@[simp] theorem is_bl_n {i : Bool} : isD (.bl i) .non = some false := nr rfl
@[simp] theorem is_non_n : isD .non .non = some true := nr rfl
@[simp] theorem is_tup_n {i : List D} : isD (.tup i) .non = some false := nr rfl
@[simp] theorem is_box_n {o : Bool} {k : Kind} {i : List D} : isD (.box o k i) .non = some false := nr rfl
@[simp] theorem is_int_b {b : Bool} {i : Int} : isD (.int i) (.bl b) = some false := nr rfl
@[simp] theorem is_str_b {b : Bool} {i : Str} : isD (.str i) (.bl b) = some false := nr rfl
@[simp] theorem is_bl_b {b : Bool} {i : Bool} : isD (.bl i) (.bl b) = some (decide (i = b)) := nr rfl
@[simp] theorem is_non_b {b : Bool} : isD .non (.bl b) = some false := nr rfl
@[simp] theorem is_tup_b {b : Bool} {i : List D} : isD (.tup i) (.bl b) = some false := nr rfl
@[simp] theorem is_box_b {b : Bool} {o : Bool} {k : Kind} {i : List D} : isD (.box o k i) (.bl b) = some false := nr rfl
@[simp] theorem ix_tup {xs : List D} {i : Int} : ixD (.tup xs) (.int i) = .opt (atI xs i) := nr rfl
@[simp] theorem ix_box {o : Bool} {xs : List D} {i : Int} : ixD (.box o .lst xs) (.int i) = .opt (atI xs i) := nr rfl
@[simp] theorem ix_ctup {xs : List Str} {i : Int} : ixD (.ctup xs) (.int i) = .opt ((atI xs i).map .str) := nr rfl
@[simp] theorem ix_dk {o : Bool} {ks : List Key} {ds : List D} {k : D} : ixD (.box o (.dk ks) ds) k = .opt ((dgetD (.box o (.dk ks) ds) k).getD none) := by cases k <;> exact rfl
@[simp] theorem ix_dt {o : Bool} {ks : List (List Key)} {ds : List D} {k : D} : ixD (.box o (.dt ks) ds) k = .opt ((dgetD (.box o (.dt ks) ds) k).getD none) := by cases k <;> exact rfl
@[simp] theorem ix_scr {ns : List Int} {i : Int} : ixD (.scr ns) (.int i) = .opt ((atI ns i).map .int) := nr rfl
theorem ix_str {z : Str} {i : Int} (h : z.length ≤ sizeLine) : ixD (.str z) (.int i) = .opt ((atI z.cps.toList i).map fun c => .str ⟨#[c]⟩) := if_pos h
@[simp] theorem len_tup {xs : List D} : bltD .len [.tup xs] = .ok (.int xs.length) := nr rfl
@[simp] theorem len_box {o : Bool} {xs : List D} : bltD .len [.box o .lst xs] = .ok (.int xs.length) := nr rfl
@[simp] theorem len_scr {xs : List Int} : bltD .len [.scr xs] = .ok (.int xs.length) := nr rfl
theorem len_str {z : Str} (h : z.length ≤ sizeLine) : bltD .len [.str z] = .ok (.int z.length) := if_pos h
@[simp] theorem len_ctup {xs : List Str} : bltD .len [.ctup xs] = .ok (.int xs.length) := nr rfl
@[simp] theorem len_dk {o : Bool} {ks : List Key} {ds : List D} : bltD .len [.box o (.dk ks) ds] = .ok (.int ks.length) := nr rfl
@[simp] theorem len_dt {o : Bool} {ks : List (List Key)} {ds : List D} : bltD .len [.box o (.dt ks) ds] = .ok (.int ks.length) := nr rfl
@[simp] theorem list_dt {o : Bool} {ks : List (List Key)} {ds : List D} : bltD .list [.box o (.dt ks) ds] = .ok (.box true .lst (ks.map fun k => .tup (k.map kD))) := nr rfl
theorem list_str {z : Str} (h : z.length ≤ sizeLine) : bltD .list [.str z] = .ok (.box true .lst (z.cps.toList.map fun c => .str ⟨#[c]⟩)) := if_pos h
@[simp] theorem list_tup {xs : List D} (h : D.nos xs = true) : bltD .list [.tup xs] = .ok (.box true .lst xs) := if_pos h
@[simp] theorem list_box {o : Bool} {xs : List D} (h : D.nos xs = true) : bltD .list [.box o .lst xs] = .ok (.box true .lst xs) := if_pos h
@[simp] theorem tuple_tup {xs : List D} (h : D.nos xs = true) : bltD .tuple [.tup xs] = .ok (.tup xs) := if_pos h
@[simp] theorem tuple_box {o : Bool} {xs : List D} (h : D.nos xs = true) : bltD .tuple [.box o .lst xs] = .ok (.tup xs) := if_pos h
@[simp] theorem sum_box {o : Bool} {xs : List D} : bltD .sum [.box o .lst xs] = .opt ((intsOf xs).map fun ns => .int ns.sum) := nr rfl
@[simp] theorem sorted_box {o : Bool} {xs : List D} : bltD .sorted [.box o .lst xs] = .opt ((sortD xs).map fun ys => .box true .lst ys) := nr rfl
@[simp] theorem all_box {o : Bool} {xs : List D} : bltD .all [.box o .lst xs] = .opt ((blsOf xs).map fun bs => .bl (bs.all id)) := nr rfl
@[simp] theorem max1_box {o : Bool} {xs : List D} : bltD .max1 [.box o .lst xs] = .opt ((intsOf xs).bind fun ns => (maxL ns).map .int) := nr rfl
@[simp] theorem min1_box {o : Bool} {xs : List D} : bltD .min1 [.box o .lst xs] = .opt ((intsOf xs).bind fun ns => (minL ns).map .int) := nr rfl
@[simp] theorem max2_int {i j : Int} : bltD .max2 [.int i, .int j] = .ok (.int (if j > i then j else i)) := nr rfl
@[simp] theorem min2_int {i j : Int} : bltD .min2 [.int i, .int j] = .ok (.int (if j < i then j else i)) := nr rfl
@[simp] theorem int_int {i : Int} : bltD .int [.int i] = .ok (.int i) := nr rfl
@[simp] theorem int_bl {b : Bool} : bltD .int [.bl b] = .ok (.int (if b then 1 else 0)) := nr rfl
@[simp] theorem ints_map {ns : List Int} : intsOf (ns.map .int) = some ns := by
  induction ns with
  | nil => rfl
  | cons x xs ih => unfold intsOf; rw [List.map_cons]; simp only [ih]; rfl
@[simp] theorem bls_map {ns : List Bool} : blsOf (ns.map .bl) = some ns := by
  induction ns with
  | nil => rfl
  | cons x xs ih => unfold blsOf; rw [List.map_cons]; simp only [ih]; rfl
@[simp] theorem strs_map {ns : List Str} : strsOf (ns.map .str) = some ns := by
  induction ns with
  | nil => rfl
  | cons x xs ih => unfold strsOf; rw [List.map_cons]; simp only [ih]; rfl
@[simp] theorem ints_nil : intsOf [] = some [] := nr rfl
@[simp] theorem ints_cons {i : Int} {ds : List D} : intsOf (.int i :: ds) = (intsOf ds).map (i :: ·) := nr rfl
@[simp] theorem prs_map {ps : List (Int × Int)} : prsOf (ps.map prD) = some ps := by
  induction ps with
  | nil => rfl
  | cons x xs ih => rw [List.map_cons]; unfold prD prsOf; simp only [← show prD = fun p : Int × Int => D.tup [.int p.1, .int p.2] from rfl, ih]; rfl
@[simp] theorem abs_int {i : Int} : bltD .abs [.int i] = .ok (.int (if i < 0 then -i else i)) := nr rfl
@[simp] theorem tupD_tup {xs : List D} (h : xs.length ≤ sizeLine) : tupD (.tup xs) = .ok (.tup xs) := if_pos h
@[simp] theorem lstD_tup {xs : List D} (h : xs.length ≤ sizeLine) : lstD (.tup xs) = .ok (.box true .lst xs) := if_pos h
@[simp] theorem view_loc {i : Nat} : E.view (.loc i) = true := nr rfl
@[simp] theorem view_non : E.view .non = false := nr rfl
@[simp] theorem view_int (i : Int) : E.view (.int i) = false := nr rfl
@[simp] theorem view_str (i : Str) : E.view (.str i) = false := nr rfl
@[simp] theorem view_bl (i : Bool) : E.view (.bl i) = false := nr rfl
@[simp] theorem view_glb (i : Str) : E.view (.glb i) = false := nr rfl
@[simp] theorem view_bin (o : Bop) (a b : E) : E.view (.bin o a b) = false := nr rfl
@[simp] theorem view_neg (a : E) : E.view (.neg a) = false := nr rfl
@[simp] theorem view_cmp (o : Cop) (a b : E) : E.view (.cmp o a b) = false := nr rfl
@[simp] theorem view_not (a : E) : E.view (.not_ a) = false := nr rfl
@[simp] theorem view_sl (a b c : E) : E.view (.sl a b c) = false := nr rfl
@[simp] theorem view_rv (a : E) : E.view (.rv a) = false := nr rfl
@[simp] theorem view_tup (a : E) : E.view (.tup a) = false := nr rfl
@[simp] theorem view_lst (a : E) : E.view (.lst a) = false := nr rfl
@[simp] theorem view_call (f : Str) (a : E) : E.view (.call f a) = false := nr rfl
@[simp] theorem view_skeys (a : E) : E.view (.skeys a) = false := nr rfl
@[simp] theorem view_lix (t : Bool) (o a : E) : E.view (.lix t o a) = false := nr rfl
@[simp] theorem view_blt (f : Blt) (a : E) : E.view (.blt f a) = false := nr rfl
@[simp] theorem view_isi (a : E) (t : Str) : E.view (.isi a t) = false := nr rfl
@[simp] theorem view_mth (m : Mth) (a b : E) : E.view (.mth m a b) = false := nr rfl
@[simp] theorem view_lc (o : List Nat) (t : Tg) (a b c : E) : E.view (.lc o t a b c) = false := nr rfl
@[simp] theorem view_rng1 (a : E) : E.view (.rng1 a) = false := nr rfl
@[simp] theorem view_rng2 (a b : E) : E.view (.rng2 a b) = false := nr rfl
@[simp] theorem view_zip2 (a b : E) : E.view (.zip2 a b) = false := nr rfl
@[simp] theorem view_enum (a : E) : E.view (.enum a) = false := nr rfl
@[simp] theorem view_revd (a : E) : E.view (.revd a) = false := nr rfl
@[simp] theorem view_rng3 (a b : E) : E.view (.rng3 a b) = false := nr rfl
@[simp] theorem view_zip3 (a b c : E) : E.view (.zip3 a b c) = false := nr rfl
@[simp] theorem view_dn (b : Bool) : E.view (.dn b) = false := nr rfl
@[simp] theorem view_mz (m : Mz) (a : E) : E.view (.mz m a) = false := nr rfl
@[simp] theorem view_fz (a : E) : E.view (.fz a) = false := nr rfl
@[simp] theorem view_get (o k x : E) : E.view (.get o k x) = true := nr rfl
@[simp] theorem view_ix (a b : E) : E.view (.ix a b) = true := nr rfl
@[simp] theorem view_ite (a b c : E) : E.view (.ite a b c) = (b.view || c.view) := nr rfl
@[simp] theorem view_one (a : E) : E.view (.one a) = a.view := nr rfl
@[simp] theorem view_and (a b : E) : E.view (.and_ a b) = b.view := nr rfl
@[simp] theorem view_or (a b : E) : E.view (.or_ a b) = b.view := nr rfl
@[simp] theorem isNon_non : E.isNon .non = true := nr rfl
@[simp] theorem isNon_one (a : E) : E.isNon (.one a) = false := nr rfl
@[simp] theorem part_non : partOf true (.ok .non) = .ok none := nr rfl
@[simp] theorem part_int {b : Bool} {i : Int} : partOf b (.ok (.int i)) = .ok (some i) := nr rfl
@[simp] theorem isi_non_bool  : isiD (.non) "bool" = .ok (.bl false) := nr rfl
@[simp] theorem isi_bl_bool {i : Bool} : isiD (.bl i) "bool" = .ok (.bl true) := nr rfl
@[simp] theorem isi_int_bool {i : Int} : isiD (.int i) "bool" = .ok (.bl false) := nr rfl
@[simp] theorem isi_str_bool {i : Str} : isiD (.str i) "bool" = .ok (.bl false) := nr rfl
@[simp] theorem isi_tup_bool {i : List D} : isiD (.tup i) "bool" = .ok (.bl false) := nr rfl
@[simp] theorem isi_lst_bool {o : Bool} {i : List D} : isiD (.box o .lst i) "bool" = .ok (.bl false) := nr rfl
@[simp] theorem isi_non_str  : isiD (.non) "str" = .ok (.bl false) := nr rfl
@[simp] theorem isi_bl_str {i : Bool} : isiD (.bl i) "str" = .ok (.bl false) := nr rfl
@[simp] theorem isi_int_str {i : Int} : isiD (.int i) "str" = .ok (.bl false) := nr rfl
@[simp] theorem isi_str_str {i : Str} : isiD (.str i) "str" = .ok (.bl true) := nr rfl
@[simp] theorem isi_tup_str {i : List D} : isiD (.tup i) "str" = .ok (.bl false) := nr rfl
@[simp] theorem isi_lst_str {o : Bool} {i : List D} : isiD (.box o .lst i) "str" = .ok (.bl false) := nr rfl
@[simp] theorem isi_non_list  : isiD (.non) "list" = .ok (.bl false) := nr rfl
@[simp] theorem isi_bl_list {i : Bool} : isiD (.bl i) "list" = .ok (.bl false) := nr rfl
@[simp] theorem isi_int_list {i : Int} : isiD (.int i) "list" = .ok (.bl false) := nr rfl
@[simp] theorem isi_str_list {i : Str} : isiD (.str i) "list" = .ok (.bl false) := nr rfl
@[simp] theorem isi_tup_list {i : List D} : isiD (.tup i) "list" = .ok (.bl false) := nr rfl
@[simp] theorem isi_lst_list {o : Bool} {i : List D} : isiD (.box o .lst i) "list" = .ok (.bl true) := nr rfl
@[simp] theorem isi_non_tuple  : isiD (.non) "tuple" = .ok (.bl false) := nr rfl
@[simp] theorem isi_bl_tuple {i : Bool} : isiD (.bl i) "tuple" = .ok (.bl false) := nr rfl
@[simp] theorem isi_int_tuple {i : Int} : isiD (.int i) "tuple" = .ok (.bl false) := nr rfl
@[simp] theorem isi_str_tuple {i : Str} : isiD (.str i) "tuple" = .ok (.bl false) := nr rfl
@[simp] theorem isi_tup_tuple {i : List D} : isiD (.tup i) "tuple" = .ok (.bl true) := nr rfl
@[simp] theorem isi_lst_tuple {o : Bool} {i : List D} : isiD (.box o .lst i) "tuple" = .ok (.bl false) := nr rfl
@[simp] theorem isi_non_int  : isiD (.non) "int" = .ok (.bl false) := nr rfl
@[simp] theorem isi_bl_int {i : Bool} : isiD (.bl i) "int" = .ok (.bl true) := nr rfl
@[simp] theorem isi_int_int {i : Int} : isiD (.int i) "int" = .ok (.bl true) := nr rfl
@[simp] theorem isi_str_int {i : Str} : isiD (.str i) "int" = .ok (.bl false) := nr rfl
@[simp] theorem isi_tup_int {i : List D} : isiD (.tup i) "int" = .ok (.bl false) := nr rfl
@[simp] theorem isi_lst_int {o : Bool} {i : List D} : isiD (.box o .lst i) "int" = .ok (.bl false) := nr rfl
theorem smallI_of {n : Int} (h : -(2 ^ 40) ≤ n) (h2 : n < 2 ^ 40) : smallI n := by
  unfold smallI
  omega
@[simp] theorem rng1_int {n : Int} (h : smallI n) : rng1D (.int n) = .ok (.tup (rngL 0 n)) := if_pos h
@[simp] theorem rng2_int {a n : Int} (h : smallI a ∧ smallI n) : rng2D (.int a) (.int n) = .ok (.tup (rngL a n)) := if_pos h
@[simp] theorem rng3_int {a n : Int} (h : smallI a ∧ smallI n) : rng3D (.int a) (.int n) = .ok (.tup (rngR a n)) := if_pos h
@[simp] theorem nos_rngRR {a n : Int} : D.nos (rngR a n) = true := nos_map _ (fun _ => no_int) _
@[simp] theorem nos_rngL {a n : Int} : D.nos (rngL a n) = true := nos_rng a n
@[simp] theorem forO_tup {tg : Tg} {b : List D → Out} {δ xs : List D} (h : D.nos xs = true) : forO tg b δ (.tup xs) = forGo (fun x δ => bindTg tg x δ) b xs δ := forO_of (if_pos h)
@[simp] theorem forO_box {o : Bool} {tg : Tg} {b : List D → Out} {δ xs : List D} (h : D.nos xs = true) : forO tg b δ (.box o .lst xs) = forGo (fun x δ => bindTg tg x δ) b xs δ := forO_of (if_pos h)
@[simp] theorem forO_str {tg : Tg} {b : List D → Out} {δ : List D} {z : Str} : forO tg b δ (.str z) = forGo (fun x δ => bindTg tg x δ) b (z.cps.toList.map fun c => .str ⟨#[c]⟩) δ := nr rfl
@[simp] theorem forO_scr {tg : Tg} {b : List D → Out} {δ : List D} {z : List Int} : forO tg b δ (.scr z) = forGo (fun x δ => bindTg tg x δ) b (z.map .int) δ := nr rfl
@[simp] theorem items_box {o : Bool} {xs : List D} (h : D.nos xs = true) : itemsOf (.box o .lst xs) = some xs := if_pos h
@[simp] theorem items_str {z : Str} : itemsOf (.str z) = some (z.cps.toList.map fun c => .str ⟨#[c]⟩) := nr rfl
@[simp] theorem items_scr {z : List Int} : itemsOf (.scr z) = some (z.map .int) := nr rfl
@[simp] theorem lcD_of {d : D} {xs : List D} {go : List D → Res (List D)} (h : itemsOf d = some xs) : lcD d go = (go xs).bind fun ys => .ok (.box true .lst ys) := by
  unfold lcD
  rw [h]
@[simp] theorem bind_nm {i : Nat} {x : D} {δ : List D} (h : x.no = true) : bindTg (.nm i) x δ = some (δ.set i x) := if_pos h
@[simp] theorem bind_tp {is : List Nat} {xs δ : List D} (h : D.nos xs = true ∧ xs.length = is.length) : bindTg (.tp is) (.tup xs) δ = some (setAll δ is xs) := if_pos h
@[simp] theorem setAll_nil {δ : List D} {xs : List D} : setAll δ [] xs = δ := by unfold setAll; rfl
@[simp] theorem setAll_cons {δ : List D} {i : Nat} {is : List Nat} {x : D} {xs : List D} : setAll δ (i :: is) (x :: xs) = setAll (δ.set i x) is xs := by rw [setAll]
theorem zip2_of {x y : D} {xs ys : List D} (h : itemsOf x = some xs) (h2 : itemsOf y = some ys) : zip2D x y = .ok (.tup (zipL xs ys)) := by
  unfold zip2D
  rw [h, h2]
def zip2K : Option (List D) → Option (List D) → Res D
  | some xs, some ys => .ok (.tup (zipL xs ys))
  | _, _ => .stuck
@[simp] theorem zip2_eq {x y : D} : zip2D x y = zip2K (itemsOf x) (itemsOf y) := by
  unfold zip2K
  rfl
@[simp] theorem zip2K_some {xs ys : List D} : zip2K (some xs) (some ys) = .ok (.tup (zipL xs ys)) := nr rfl
def zip3K : Option (List D) → Option (List D) → Option (List D) → Res D
  | some xs, some ys, some zs => .ok (.tup (zipL3 xs ys zs))
  | _, _, _ => .stuck
@[simp] theorem zip3_eq {x y z : D} : zip3D x y z = zip3K (itemsOf x) (itemsOf y) (itemsOf z) := by
  unfold zip3K
  rfl
@[simp] theorem zip3K_some {xs ys zs : List D} : zip3K (some xs) (some ys) (some zs) = .ok (.tup (zipL3 xs ys zs)) := nr rfl
def enumK : Option (List D) → Res D
  | some xs => .ok (.tup (enumL xs))
  | none => .stuck
@[simp] theorem enum_eq {x : D} : enumD x = enumK (itemsOf x) := by
  unfold enumK
  rfl
@[simp] theorem enumK_some {xs : List D} : enumK (some xs) = .ok (.tup (enumL xs)) := nr rfl
@[simp] theorem items_tupp {xs : List D} (h : D.nos xs = true) : itemsOf (.tup xs) = some xs := if_pos h
@[simp] theorem items_ctup {xs : List Str} : itemsOf (.ctup xs) = some (xs.map .str) := nr rfl
@[simp] theorem nos_zipL {xs ys : List D} (h : D.nos xs = true ∧ D.nos ys = true) : D.nos (zipL xs ys) = true := nos_zip h.1 h.2
@[simp] theorem nos_enumL {xs : List D} (h : D.nos xs = true) : D.nos (enumL xs) = true := nos_enum h
@[simp] theorem revd_box {o : Bool} {xs : List D} (h : D.nos xs = true) : revdD (.box o .lst xs) = .ok (.tup xs.reverse) := if_pos h
@[simp] theorem nos_reverse {xs : List D} (h : D.nos xs = true) : D.nos xs.reverse = true := nos_rev h
@[simp] theorem size_pos : (1 : Nat) ≤ sizeLine := by rw [sizeLine_eq]; omega
theorem rng_get {lo n : Int} {i : Nat} {x : D} (h : (rngL lo n)[i]? = some x) : x = .int (lo + i) ∧ i < (n - lo).toNat := by
  unfold rngL at h
  have hl := (List.getElem?_eq_some_iff.mp h).1
  rw [List.length_map, List.length_range] at hl
  rw [List.getElem?_map, List.getElem?_range hl] at h
  cases h
  exact ⟨rfl, hl⟩
@[simp] theorem rng_len {lo n : Int} : (rngL lo n).length = (n - lo).toNat := by
  unfold rngL
  rw [List.length_map, List.length_range]
@[simp] theorem sl_box {o : Bool} {xs : List D} {lo hi : Option Int} (h : D.nos xs = true) : slD (.box o .lst xs) lo hi = .ok (.box true .lst (cutL xs lo hi)) := if_pos h
theorem sl_strD {z : Str} {lo hi : Option Int} (h : z.length ≤ sizeLine) : slD (.str z) lo hi = .ok (.str (cutS z lo hi)) := if_pos h
theorem sIx_pos {n d : Nat} {v : Int} (h : 0 ≤ v) : HT.sIx n d (some v) = min v.toNat n := by
  show (if v < 0 then (v + (n : Int)).toNat else min v.toNat n) = _
  rw [if_neg (by omega)]
theorem cutL_take {α : Type} {xs : List α} {n : Int} (h : 0 ≤ n) : cutL xs none (some n) = xs.take n.toNat := by
  unfold cutL
  rw [sIx_pos h]
  show (xs.drop 0).take (min n.toNat xs.length - 0) = _
  rw [List.drop_zero, Nat.sub_zero]
  by_cases h1 : n.toNat ≤ xs.length
  · rw [Nat.min_eq_left h1]
  · rw [Nat.min_eq_right (by omega), List.take_length, List.take_of_length_le (by omega)]
theorem cutL_drop {α : Type} {xs : List α} {n : Int} (h : 0 ≤ n) : cutL xs (some n) none = xs.drop n.toNat := by
  unfold cutL
  rw [sIx_pos h]
  show (xs.drop (min n.toNat xs.length)).take (xs.length - min n.toNat xs.length) = _
  by_cases h1 : n.toNat ≤ xs.length
  · rw [Nat.min_eq_left h1, List.take_of_length_le (by rw [List.length_drop]; omega)]
  · rw [Nat.min_eq_right (by omega), List.drop_length, List.drop_of_length_le (by omega), List.take_nil]
theorem cutL_mid {α : Type} {xs : List α} {m n : Int} (h : 0 ≤ m) (h2 : 0 ≤ n) : cutL xs (some m) (some n) = (xs.drop m.toNat).take (n.toNat - m.toNat) := by
  unfold cutL
  rw [sIx_pos h, sIx_pos h2]
  by_cases h1 : m.toNat ≤ xs.length
  · rw [Nat.min_eq_left h1]
    by_cases h3 : n.toNat ≤ xs.length
    · rw [Nat.min_eq_left h3]
    · rw [Nat.min_eq_right (Nat.le_of_lt (Nat.lt_of_not_le h3)), List.take_of_length_le (Nat.le_of_eq List.length_drop), List.take_of_length_le (by rw [List.length_drop]; exact Nat.sub_le_sub_right (Nat.le_of_lt (Nat.lt_of_not_le h3)) _)]
  · rw [Nat.min_eq_right (Nat.le_of_lt (Nat.lt_of_not_le h1)), List.drop_length, List.drop_of_length_le (Nat.le_of_lt (Nat.lt_of_not_le h1)), List.take_nil, List.take_nil]
theorem ix_strAt {z : Str} {i : Int} {c : Nat} (h : z.length ≤ sizeLine) (e : L2.atI z.cps.toList i = some c) : ixD (.str z) (.int i) = .ok (.str ⟨#[c]⟩) := by
  rw [ix_str h, e]
  rfl
@[simp] theorem nos_take {xs : List D} {n : Nat} (h : D.nos xs = true) : D.nos (xs.take n) = true := nos_of fun d hd => nos_get h d (List.mem_of_mem_take hd)
@[simp] theorem nos_drop {xs : List D} {n : Nat} (h : D.nos xs = true) : D.nos (xs.drop n) = true := nos_of fun d hd => nos_get h d (List.mem_of_mem_drop hd)
/-! ### texts -/
theorem joinL_nil : ∀ ps : List (List Nat), TL.joinL [] ps = ps.flatten
  | [] => rfl
  | [p] => by simp [TL.joinL]
  | p :: q :: r => by
    show p ++ ([] ++ TL.joinL [] (q :: r)) = _
    rw [joinL_nil (q :: r)]
    rfl
theorem str_ext {x y : Str} (h : x.cps.toList = y.cps.toList) : x = y := by
  cases x with
  | mk a =>
    cases y with
    | mk b =>
      have h : a.toList = b.toList := h
      rw [Array.toList_inj.mp h]
theorem flat_ones : ∀ cs : List Nat, (cs.map fun c => [c]).flatten = cs
  | [] => rfl
  | c :: cs => by rw [List.map_cons, List.flatten_cons, flat_ones cs]; rfl
theorem join_chars (cs : List Nat) : Txt.join "" (cs.map fun c => (⟨#[c]⟩ : Str)) = ⟨cs.toArray⟩ := by
  refine str_ext ?_
  rw [TL.join_eq]
  have := TL.tl_join "" (cs.map fun c => (⟨#[c]⟩ : Str))
  have e : TL.tl ("" : Str) = [] := by decide +kernel
  rw [e, joinL_nil] at this
  refine Eq.trans (b := TL.tl (Str.join "" (cs.map fun c => (⟨#[c]⟩ : Str)))) rfl (this.trans ?_)
  rw [List.map_map]
  have : (TL.tl ∘ fun c => (⟨#[c]⟩ : Str)) = fun c => [c] := rfl
  rw [this]
  show _ = cs.toArray.toList
  exact flat_ones cs
theorem strs_chars (cs : List Nat) : strsOf (cs.map fun c => D.str ⟨#[c]⟩) = some (cs.map fun c => (⟨#[c]⟩ : Str)) := by
  induction cs with
  | nil => rfl
  | cons c cs ih =>
    rw [List.map_cons]
    unfold strsOf
    rw [ih]
    rfl
theorem sum_ones (cs : List Nat) : ((cs.map fun c => (⟨#[c]⟩ : Str)).map (·.length)).sum = cs.length := by
  induction cs with
  | nil => rfl
  | cons c cs ih =>
    rw [List.map_cons, List.map_cons, List.sum_cons, ih, List.length_cons]
    show 1 + cs.length = _
    omega
/-- "".join of single letters -/
theorem mth_join0 {o : Bool} {cs : List Nat} (h : cs.length ≤ 1000000) : mthD .join (.str "") (.box o .lst (cs.map fun c => D.str ⟨#[c]⟩)) = .ok (.str ⟨cs.toArray⟩) := by
  show (match strsOf (cs.map fun c => D.str ⟨#[c]⟩) with
    | some ys => if (ys.map fun y : Str => y.length).sum + ys.length * ("" : Str).length ≤ 16777216 then Res.ok (D.str (Txt.join "" ys)) else Res.stuck
    | none => Res.stuck) = _
  rw [strs_chars]
  dsimp only
  rw [sum_ones, join_chars, if_pos]
  have e : ("" : Str).length = 0 := by decide +kernel
  rw [e]
  omega
theorem repS_char {c : Nat} {n : Int} (h0 : 0 ≤ n) : (repS ⟨#[c]⟩ n).cps.toList = List.replicate n.toNat c := by
  unfold repS
  split
  · have : n.toNat = 0 := by omega
    rw [this]
    rfl
  · split
    · rename_i _ h1
      rw [h1]
      rfl
    · show (List.foldl (· ++ ·) #[] (List.replicate n.toNat #[c])).toList = _
      generalize n.toNat = k
      have : ∀ (k : Nat) (a : Array Nat), (List.foldl (· ++ ·) a (List.replicate k #[c])).toList = a.toList ++ List.replicate k c := fun k => by
        induction k with
        | zero => intro a; simp
        | succ k ih =>
          intro a
          rw [List.replicate_succ, List.foldl_cons, ih]
          simp [List.replicate_succ]
      simpa using this k #[]
@[simp] theorem at_0 {α : Type} {a0 : α} {r : List α} : L2.atI (a0 :: r) 0 = some a0 := by
  have h : L2.ixN (a0 :: r).length 0 = some 0 := by
    unfold L2.ixN
    rw [if_pos (by omega), if_pos (by simp only [List.length_cons]; omega)]
    rfl
  unfold L2.atI
  rw [h]
  rfl
@[simp] theorem at_1 {α : Type} {a0 a1 : α} {r : List α} : L2.atI (a0 :: a1 :: r) 1 = some a1 := by
  have h : L2.ixN (a0 :: a1 :: r).length 1 = some 1 := by
    unfold L2.ixN
    rw [if_pos (by omega), if_pos (by simp only [List.length_cons]; omega)]
    rfl
  unfold L2.atI
  rw [h]
  rfl
@[simp] theorem at_2 {α : Type} {a0 a1 a2 : α} {r : List α} : L2.atI (a0 :: a1 :: a2 :: r) 2 = some a2 := by
  have h : L2.ixN (a0 :: a1 :: a2 :: r).length 2 = some 2 := by
    unfold L2.ixN
    rw [if_pos (by omega), if_pos (by simp only [List.length_cons]; omega)]
    rfl
  unfold L2.atI
  rw [h]
  rfl
@[simp] theorem at_3 {α : Type} {a0 a1 a2 a3 : α} {r : List α} : L2.atI (a0 :: a1 :: a2 :: a3 :: r) 3 = some a3 := by
  have h : L2.ixN (a0 :: a1 :: a2 :: a3 :: r).length 3 = some 3 := by
    unfold L2.ixN
    rw [if_pos (by omega), if_pos (by simp only [List.length_cons]; omega)]
    rfl
  unfold L2.atI
  rw [h]
  rfl
@[simp] theorem at_4 {α : Type} {a0 a1 a2 a3 a4 : α} {r : List α} : L2.atI (a0 :: a1 :: a2 :: a3 :: a4 :: r) 4 = some a4 := by
  have h : L2.ixN (a0 :: a1 :: a2 :: a3 :: a4 :: r).length 4 = some 4 := by
    unfold L2.ixN
    rw [if_pos (by omega), if_pos (by simp only [List.length_cons]; omega)]
    rfl
  unfold L2.atI
  rw [h]
  rfl
@[simp] theorem at_5 {α : Type} {a0 a1 a2 a3 a4 a5 : α} {r : List α} : L2.atI (a0 :: a1 :: a2 :: a3 :: a4 :: a5 :: r) 5 = some a5 := by
  have h : L2.ixN (a0 :: a1 :: a2 :: a3 :: a4 :: a5 :: r).length 5 = some 5 := by
    unfold L2.ixN
    rw [if_pos (by omega), if_pos (by simp only [List.length_cons]; omega)]
    rfl
  unfold L2.atI
  rw [h]
  rfl
@[simp] theorem at_6 {α : Type} {a0 a1 a2 a3 a4 a5 a6 : α} {r : List α} : L2.atI (a0 :: a1 :: a2 :: a3 :: a4 :: a5 :: a6 :: r) 6 = some a6 := by
  have h : L2.ixN (a0 :: a1 :: a2 :: a3 :: a4 :: a5 :: a6 :: r).length 6 = some 6 := by
    unfold L2.ixN
    rw [if_pos (by omega), if_pos (by simp only [List.length_cons]; omega)]
    rfl
  unfold L2.atI
  rw [h]
  rfl
@[simp] theorem at_7 {α : Type} {a0 a1 a2 a3 a4 a5 a6 a7 : α} {r : List α} : L2.atI (a0 :: a1 :: a2 :: a3 :: a4 :: a5 :: a6 :: a7 :: r) 7 = some a7 := by
  have h : L2.ixN (a0 :: a1 :: a2 :: a3 :: a4 :: a5 :: a6 :: a7 :: r).length 7 = some 7 := by
    unfold L2.ixN
    rw [if_pos (by omega), if_pos (by simp only [List.length_cons]; omega)]
    rfl
  unfold L2.atI
  rw [h]
  rfl
@[simp] theorem at_8 {α : Type} {a0 a1 a2 a3 a4 a5 a6 a7 a8 : α} {r : List α} : L2.atI (a0 :: a1 :: a2 :: a3 :: a4 :: a5 :: a6 :: a7 :: a8 :: r) 8 = some a8 := by
  have h : L2.ixN (a0 :: a1 :: a2 :: a3 :: a4 :: a5 :: a6 :: a7 :: a8 :: r).length 8 = some 8 := by
    unfold L2.ixN
    rw [if_pos (by omega), if_pos (by simp only [List.length_cons]; omega)]
    rfl
  unfold L2.atI
  rw [h]
  rfl
@[simp] theorem at_9 {α : Type} {a0 a1 a2 a3 a4 a5 a6 a7 a8 a9 : α} {r : List α} : L2.atI (a0 :: a1 :: a2 :: a3 :: a4 :: a5 :: a6 :: a7 :: a8 :: a9 :: r) 9 = some a9 := by
  have h : L2.ixN (a0 :: a1 :: a2 :: a3 :: a4 :: a5 :: a6 :: a7 :: a8 :: a9 :: r).length 9 = some 9 := by
    unfold L2.ixN
    rw [if_pos (by omega), if_pos (by simp only [List.length_cons]; omega)]
    rfl
  unfold L2.atI
  rw [h]
  rfl
@[simp] theorem at_10 {α : Type} {a0 a1 a2 a3 a4 a5 a6 a7 a8 a9 a10 : α} {r : List α} : L2.atI (a0 :: a1 :: a2 :: a3 :: a4 :: a5 :: a6 :: a7 :: a8 :: a9 :: a10 :: r) 10 = some a10 := by
  have h : L2.ixN (a0 :: a1 :: a2 :: a3 :: a4 :: a5 :: a6 :: a7 :: a8 :: a9 :: a10 :: r).length 10 = some 10 := by
    unfold L2.ixN
    rw [if_pos (by omega), if_pos (by simp only [List.length_cons]; omega)]
    rfl
  unfold L2.atI
  rw [h]
  rfl
@[simp] theorem at_11 {α : Type} {a0 a1 a2 a3 a4 a5 a6 a7 a8 a9 a10 a11 : α} {r : List α} : L2.atI (a0 :: a1 :: a2 :: a3 :: a4 :: a5 :: a6 :: a7 :: a8 :: a9 :: a10 :: a11 :: r) 11 = some a11 := by
  have h : L2.ixN (a0 :: a1 :: a2 :: a3 :: a4 :: a5 :: a6 :: a7 :: a8 :: a9 :: a10 :: a11 :: r).length 11 = some 11 := by
    unfold L2.ixN
    rw [if_pos (by omega), if_pos (by simp only [List.length_cons]; omega)]
    rfl
  unfold L2.atI
  rw [h]
  rfl
theorem Tx.run_of {t : Tx} {f : Str} {d : Df} {n : Nat} (h : findD t.T f = some d) (hk : d.kd = .fn) : t.run (n + 1) f = some (goD (t.run n) t.gl t.ex d) := Tx.run_of0 h hk
end PX

/-! PX, part o (second layer): what a run gives, told by wishes. -/
namespace PX
open PySem PySem.Spec PyProof.Rows L2

/-- it gives a value of which Q holds -/
def Yld (r : Res D) (Q : D → Prop) : Prop := ∃ d, r = .ok d ∧ Q d
@[simp] theorem yld_ok {d : D} {Q : D → Prop} : Yld (.ok d) Q ↔ Q d := ⟨fun ⟨_, e, h⟩ => by cases e; exact h, fun h => ⟨d, rfl, h⟩⟩
theorem Yld.imp {r : Res D} {Q Q' : D → Prop} (h : Yld r Q) (k : ∀ d, Q d → Q' d) : Yld r Q' := by
  obtain ⟨d, e, q⟩ := h
  exact ⟨d, e, k d q⟩
/-- wishes about a statement's end -/
structure Wn where
  nx : List D → Prop
  ct : List D → Prop
  bk : List D → Prop
  rt : D → Prop
  ex : Str → List D → Prop
def Wo (o : Out) (w : Wn) : Prop := match o with
  | .nx δ => w.nx δ
  | .ct δ => w.ct δ
  | .bk δ => w.bk δ
  | .rt d => w.rt d
  | .exc c fs _ => w.ex c fs
  | .rtx _ _ => False
  | .stuck => False
@[simp] theorem wo_nx {δ : List D} {w : Wn} : Wo (.nx δ) w ↔ w.nx δ := Iff.rfl
@[simp] theorem wo_ct {δ : List D} {w : Wn} : Wo (.ct δ) w ↔ w.ct δ := Iff.rfl
@[simp] theorem wo_bk {δ : List D} {w : Wn} : Wo (.bk δ) w ↔ w.bk δ := Iff.rfl
@[simp] theorem wo_rt {d : D} {w : Wn} : Wo (.rt d) w ↔ w.rt d := Iff.rfl
@[simp] theorem wo_exc {c : Str} {fs : List D} {δ : List D} {w : Wn} : Wo (.exc c fs δ) w ↔ w.ex c fs := Iff.rfl
/-- a def's end -/
def wF (Q : D → Prop) : Wn := ⟨fun _ => Q .non, fun _ => False, fun _ => False, Q, fun _ _ => False⟩
@[simp] theorem wF_nx {Q : D → Prop} {δ : List D} : (wF Q).nx δ ↔ Q .non := Iff.rfl
@[simp] theorem wF_rt {Q : D → Prop} {d : D} : (wF Q).rt d ↔ Q d := Iff.rfl
theorem yld_fin {o : Out} {Q : D → Prop} (h : Wo o (wF Q)) : Yld o.fin Q := by
  cases o with
  | nx δ => exact ⟨.non, rfl, h⟩
  | rt d => exact ⟨d, rfl, h⟩
  | _ => exact h.elim
@[simp] theorem yld_fin_iff {o : Out} {Q : D → Prop} : Yld o.fin Q ↔ Wo o (wF Q) := by
  refine ⟨fun h => ?_, yld_fin⟩
  obtain ⟨d, e, q⟩ := h
  cases o with
  | nx δ => cases e; exact q
  | rt d => cases e; exact q
  | _ => cases e
@[simp] theorem thn_thn {o : Out} {f g : List D → Out} : (o.thn f).thn g = o.thn fun δ => (f δ).thn g := by cases o <;> rfl
/-- a for -/
theorem wo_for {bnd : D → List D → Option (List D)} {b : List D → Out} {f : List D → Out} {w : Wn} (Bk : List D → Prop) : ∀ {xs : List D} (P : Nat → List D → Prop) {δ : List D}, P 0 δ →
    (∀ i x δ, xs[i]? = some x → P i δ → ∃ δ1, bnd x δ = some δ1 ∧ Wo (b δ1) ⟨P (i + 1), P (i + 1), Bk, w.rt, w.ex⟩) → (∀ δ, P xs.length δ → Wo (f δ) w) → (∀ δ, Bk δ → Wo (f δ) w) → Wo ((forGo bnd b xs δ).thn f) w
  | [], P, δ, h0, _, k, _ => k δ h0
  | x :: xs, P, δ, h0, hs, k, kb => by
    obtain ⟨δ1, e1, h1⟩ := hs 0 x δ rfl h0
    unfold forGo
    rw [e1]
    dsimp only
    cases e : b δ1 with
    | nx δ2 =>
      rw [e] at h1
      exact wo_for Bk (xs := xs) (fun i => P (i + 1)) h1 (fun i y δ e p => hs (i + 1) y δ (by simpa using e) p) k kb
    | ct δ2 =>
      rw [e] at h1
      exact wo_for Bk (xs := xs) (fun i => P (i + 1)) h1 (fun i y δ e p => hs (i + 1) y δ (by simpa using e) p) k kb
    | bk δ2 => rw [e] at h1; exact kb δ2 h1
    | rt d => rw [e] at h1; exact h1
    | rtx d δ2 => rw [e] at h1; exact h1.elim
    | exc c fs δ2 => rw [e] at h1; exact h1
    | stuck => rw [e] at h1; exact h1.elim
theorem wo_for0 {bnd : D → List D → Option (List D)} {b : List D → Out} {w : Wn} {xs : List D} (Bk : List D → Prop) (P : Nat → List D → Prop) {δ : List D} (h0 : P 0 δ)
    (hs : ∀ i x δ, xs[i]? = some x → P i δ → ∃ δ1, bnd x δ = some δ1 ∧ Wo (b δ1) ⟨P (i + 1), P (i + 1), Bk, w.rt, w.ex⟩) (k : ∀ δ, P xs.length δ → w.nx δ) (kb : ∀ δ, Bk δ → w.nx δ) : Wo (forGo bnd b xs δ) w := by
  have e : forGo bnd b xs δ = (forGo bnd b xs δ).thn .nx := by cases forGo bnd b xs δ <;> rfl
  rw [e]
  exact wo_for (f := .nx) Bk P h0 hs k kb
/-- every turn of a comprehension gives an item -/
theorem lcGo_map {bnd : D → Option (List D)} {c e : List D → Res D} {vw : Bool} (f : D → D) : ∀ {xs acc : List D}, (acc.length + xs.length ≤ sizeLine) →
    (∀ x ∈ xs, ∃ δ, bnd x = some δ ∧ c δ = .ok (.bl true) ∧ e δ = .ok (f x) ∧ (vw = true → (f x).no = true)) → lcGo bnd c e vw xs acc = .ok (acc ++ xs.map f)
  | [], acc, _, _ => by simp [lcGo]
  | x :: xs, acc, hl, hs => by
    obtain ⟨δ, e1, e2, e3, e4⟩ := hs x (by simp)
    unfold lcGo
    rw [e1]
    dsimp only
    rw [e2, e3]
    have : (Res.ok (f x)).bind (vlD vw) = .ok (f x) := by
      cases vw with
      | false => rfl
      | true => exact vl_t (e4 rfl)
    rw [this]
    dsimp only
    rw [List.length_cons] at hl
    rw [if_pos (by omega), lcGo_map f (by rw [List.length_append, List.length_singleton]; omega) fun y hy => hs y (List.mem_cons_of_mem _ hy)]
    simp
theorem atI_ok {α : Type} {xs : List α} {i : Int} (h0 : 0 ≤ i) (h : i < xs.length) : ∃ x, atI xs i = some x ∧ x ∈ xs ∧ xs[i.toNat]? = some x := by
  have hl : i.toNat < xs.length := by omega
  refine ⟨xs[i.toNat], ?_, List.getElem_mem hl, List.getElem?_eq_getElem hl⟩
  unfold L2.atI L2.ixN
  simp [h0, h, hl]
theorem goD_yld {fn : Str → Option (List D → Res D)} {gl : Str → Option D} {ex : Xs} {d : Df} {ds : List D} {Q : D → Prop} (hl : ds.length = d.ps.length) (h : Wo (exec fn gl ex d.b (ds ++ List.replicate (d.N.length - ds.length) .dead)) (wF Q)) : Yld (goD fn gl ex d ds) Q := by
  rw [goD_len hl]
  exact yld_fin h

theorem goD_eq {fn : Str → Option (List D → Res D)} {gl : Str → Option D} {ex : Xs} {d : Df} {ds : List D} {X : D} (hl : ds.length = d.ps.length) (h : Wo (exec fn gl ex d.b (ds ++ List.replicate (d.N.length - ds.length) .dead)) (wF (· = X))) : goD fn gl ex d ds = .ok X := by
  obtain ⟨_, e, rfl⟩ := goD_yld hl h
  exact e
/-- a def's end, let out or given -/
def wX (X : Res D) : Wn := ⟨fun _ => Res.ok D.non = X, fun _ => False, fun _ => False, fun d => Res.ok d = X, fun c fs => Res.exc c fs = X⟩
@[simp] theorem wX_nx {X : Res D} {δ : List D} : (wX X).nx δ ↔ Res.ok D.non = X := Iff.rfl
@[simp] theorem wX_rt {X : Res D} {d : D} : (wX X).rt d ↔ Res.ok d = X := Iff.rfl
@[simp] theorem wX_ex {X : Res D} {c : Str} {fs : List D} : (wX X).ex c fs ↔ Res.exc c fs = X := Iff.rfl
theorem goD_res {fn : Str → Option (List D → Res D)} {gl : Str → Option D} {ex : Xs} {d : Df} {ds : List D} {X : Res D} (hl : ds.length = d.ps.length) (h : Wo (exec fn gl ex d.b (ds ++ List.replicate (d.N.length - ds.length) .dead)) (wX X)) : goD fn gl ex d ds = X := by
  rw [goD_len hl]
  generalize exec fn gl ex d.b (ds ++ List.replicate (d.N.length - ds.length) .dead) = o at h
  cases o with
  | nx δ => exact h
  | rt d => exact h
  | exc c fs δ => exact h
  | ct δ => exact h.elim
  | bk δ => exact h.elim
  | rtx d δ => exact h.elim
  | stuck => exact h.elim
/-- wishes of a turn that goes on -/
def wT (P : List D → Prop) : Wn := ⟨P, P, fun _ => False, fun _ => False, fun _ _ => False⟩
@[simp] theorem wT_nx {P : List D → Prop} {δ : List D} : (wT P).nx δ ↔ P δ := Iff.rfl
@[simp] theorem wT_ct {P : List D → Prop} {δ : List D} : (wT P).ct δ ↔ P δ := Iff.rfl
/-- wishes of a turn that may also give the def's end -/
def wR (P : List D → Prop) (w : Wn) : Wn := ⟨P, P, fun _ => False, w.rt, w.ex⟩
@[simp] theorem wR_nx {P : List D → Prop} {w : Wn} {δ : List D} : (wR P w).nx δ ↔ P δ := Iff.rfl
@[simp] theorem wR_ct {P : List D → Prop} {w : Wn} {δ : List D} : (wR P w).ct δ ↔ P δ := Iff.rfl
@[simp] theorem wR_rt {P : List D → Prop} {w : Wn} {d : D} : (wR P w).rt d ↔ w.rt d := Iff.rfl
@[simp] theorem wR_ex {P : List D → Prop} {w : Wn} {c : Str} {fs : List D} : (wR P w).ex c fs ↔ w.ex c fs := Iff.rfl
theorem Wo.imp {o : Out} {w w' : Wn} (h : Wo o w) (h1 : ∀ δ, w.nx δ → w'.nx δ) (h2 : ∀ δ, w.ct δ → w'.ct δ) (h3 : ∀ δ, w.bk δ → w'.bk δ) (h4 : ∀ d, w.rt d → w'.rt d) (h5 : ∀ c fs, w.ex c fs → w'.ex c fs) : Wo o w' := by
  cases o with
  | nx δ => exact h1 _ h
  | ct δ => exact h2 _ h
  | bk δ => exact h3 _ h
  | rt d => exact h4 _ h
  | exc c fs δ => exact h5 _ _ h
  | rtx d δ => exact h.elim
  | stuck => exact h.elim
/-- a for over typed items: the i-th turn -/
theorem wo_ix {α : Type} {bnd : D → List D → Option (List D)} {b : List D → Out} {f : List D → Out} {w : Wn} {ec : α → D} {ys : List α} {δ0 : List D} (R : Nat → List D → List D → Prop) (h0 : R 0 δ0 δ0)
    (hs : ∀ i y δ (Pn : List D → Prop), ys[i]? = some y → R i δ0 δ → (∀ δ, R (i + 1) δ0 δ → Pn δ) → ∃ δ1, bnd (ec y) δ = some δ1 ∧ Wo (b δ1) (wR Pn w)) (k : ∀ δ, R ys.length δ0 δ → Wo (f δ) w) : Wo ((forGo bnd b (ys.map ec) δ0).thn f) w := by
  refine wo_for (fun _ => False) (fun i δ => R i δ0 δ) h0 (fun i x δ e p => ?_) (fun δ p => ?_) (fun _ z => z.elim)
  · rw [List.getElem?_map] at e
    cases ey : ys[i]? with
    | none => rw [ey] at e; cases e
    | some y =>
      rw [ey] at e
      cases e
      exact hs i y δ _ ey p fun _ h => h
  · rw [List.length_map] at p
    exact k δ p
theorem foldl_take {α σ : Type} {step : σ → α → σ} {ys : List α} {s : σ} {i : Nat} {y : α} (h : ys[i]? = some y) : (ys.take (i + 1)).foldl step s = step ((ys.take i).foldl step s) y := by
  rw [List.take_add_one, h, List.foldl_append]
  rfl
/-- a for over typed items: a state's steps -/
theorem wo_st {α σ : Type} {bnd : D → List D → Option (List D)} {b : List D → Out} {f : List D → Out} {w : Wn} {ec : α → D} {ys : List α} {δ0 : List D} (R : σ → List D → List D → Prop) (step : σ → α → σ) (s0 : σ) (h0 : R s0 δ0 δ0)
    (hs : ∀ s y δ (Pn : List D → Prop), y ∈ ys → R s δ0 δ → (∀ δ, R (step s y) δ0 δ → Pn δ) → ∃ δ1, bnd (ec y) δ = some δ1 ∧ Wo (b δ1) (wR Pn w)) (k : ∀ δ, R (ys.foldl step s0) δ0 δ → Wo (f δ) w) : Wo ((forGo bnd b (ys.map ec) δ0).thn f) w := by
  refine wo_ix (fun i => R ((ys.take i).foldl step s0)) h0 (fun i y δ Pn e p hn => ?_) (fun δ p => ?_)
  · rw [foldl_take e] at hn
    exact hs _ y δ Pn (List.mem_of_getElem? e) p hn
  · rw [List.take_length] at p
    exact k δ p
/-- over numbers -/
theorem wo_rng {bnd : D → List D → Option (List D)} {b : List D → Out} {f : List D → Out} {w : Wn} {lo n : Int} {δ0 : List D} (R : Nat → List D → List D → Prop) (h0 : R 0 δ0 δ0)
    (hs : ∀ (i : Nat) δ (Pn : List D → Prop), i < (n - lo).toNat → R i δ0 δ → (∀ δ, R (i + 1) δ0 δ → Pn δ) → ∃ δ1, bnd (.int (lo + i)) δ = some δ1 ∧ Wo (b δ1) (wR Pn w)) (k : ∀ δ, R (n - lo).toNat δ0 δ → Wo (f δ) w) : Wo ((forGo bnd b (rngL lo n) δ0).thn f) w := by
  refine wo_for (fun _ => False) (fun i δ => R i δ0 δ) h0 (fun i x δ e p => ?_) (fun δ p => ?_) (fun _ z => z.elim)
  · obtain ⟨rfl, hi⟩ := rng_get e
    exact hs i δ _ hi p fun _ h => h
  · rw [rng_len] at p
    exact k δ p
@[simp] theorem thn_nxf {o : Out} : o.thn .nx = o := by cases o <;> rfl
theorem wo_last {o : Out} {w : Wn} (h : Wo (o.thn .nx) w) : Wo o w := by
  rw [thn_nxf] at h
  exact h
/-- a comprehension over typed items -/
theorem lc_map {α : Type} {bnd : D → Option (List D)} {c e : List D → Res D} {vw : Bool} {ec : α → D} (f : α → D) {ys : List α} (hl : ys.length ≤ sizeLine)
    (hs : ∀ y ∈ ys, ∃ δ, bnd (ec y) = some δ ∧ c δ = .ok (.bl true) ∧ e δ = .ok (f y) ∧ (vw = true → (f y).no = true)) : lcGo bnd c e vw (ys.map ec) [] = .ok (ys.map f) := by
  have : ∀ (ys : List α) (acc : List D), acc.length + ys.length ≤ sizeLine → (∀ y ∈ ys, ∃ δ, bnd (ec y) = some δ ∧ c δ = .ok (.bl true) ∧ e δ = .ok (f y) ∧ (vw = true → (f y).no = true)) → lcGo bnd c e vw (ys.map ec) acc = .ok (acc ++ ys.map f) := by
    intro ys
    induction ys with
    | nil => intro acc _ _; simp [lcGo]
    | cons y ys ih =>
      intro acc hl hs
      obtain ⟨δ, e1, e2, e3, e4⟩ := hs y (by simp)
      rw [List.map_cons]
      unfold lcGo
      rw [e1]
      dsimp only
      rw [e2, e3]
      have : (Res.ok (f y)).bind (vlD vw) = .ok (f y) := by
        cases vw with
        | false => rfl
        | true => exact vl_t (e4 rfl)
      rw [this]
      dsimp only
      rw [List.length_cons] at hl
      rw [if_pos (by omega), ih _ (by rw [List.length_append, List.length_singleton]; omega) fun z hz => hs z (List.mem_cons_of_mem _ hz)]
      simp
  have h := this ys [] (by simpa using hl) hs
  rw [List.nil_append] at h
  exact h
theorem lc_filter {α : Type} {bnd : D → Option (List D)} {c e : List D → Res D} {vw : Bool} {ec : α → D} (p : α → Bool) (f : α → D) {ys : List α} (hl : ys.length ≤ sizeLine)
    (hs : ∀ y ∈ ys, ∃ δ, bnd (ec y) = some δ ∧ c δ = .ok (.bl (p y)) ∧ (p y = true → e δ = .ok (f y) ∧ (vw = true → (f y).no = true))) : lcGo bnd c e vw (ys.map ec) [] = .ok ((ys.filter p).map f) := by
  have : ∀ (ys : List α) (acc : List D), acc.length + ys.length ≤ sizeLine → (∀ y ∈ ys, ∃ δ, bnd (ec y) = some δ ∧ c δ = .ok (.bl (p y)) ∧ (p y = true → e δ = .ok (f y) ∧ (vw = true → (f y).no = true))) → lcGo bnd c e vw (ys.map ec) acc = .ok (acc ++ (ys.filter p).map f) := by
    intro ys
    induction ys with
    | nil => intro acc _ _; simp [lcGo]
    | cons y ys ih =>
      intro acc hl hs
      obtain ⟨δ, e1, e2, e34⟩ := hs y (by simp)
      rw [List.map_cons]
      unfold lcGo
      rw [e1]
      dsimp only
      rw [List.length_cons] at hl
      cases ep : p y with
      | false =>
        rw [e2, ep]
        dsimp only
        rw [ih _ (by omega) fun z hz => hs z (List.mem_cons_of_mem _ hz), List.filter_cons, ep]
        rfl
      | true =>
        obtain ⟨e3, e4⟩ := e34 ep
        rw [e2, ep, e3]
        dsimp only
        have : (Res.ok (f y)).bind (vlD vw) = .ok (f y) := by
          cases vw with
          | false => rfl
          | true => exact vl_t (e4 rfl)
        rw [this]
        dsimp only
        rw [if_pos (by omega), ih _ (by rw [List.length_append, List.length_singleton]; omega) fun z hz => hs z (List.mem_cons_of_mem _ hz), List.filter_cons, ep]
        simp
  have h := this ys [] (by simpa using hl) hs
  rw [List.nil_append] at h
  exact h
theorem lc_rng {bnd : D → Option (List D)} {c e : List D → Res D} {vw : Bool} {lo n : Int} (f : Nat → D) (hl : (n - lo).toNat ≤ sizeLine)
    (hs : ∀ i < (n - lo).toNat, ∃ δ, bnd (.int (lo + (i : Nat))) = some δ ∧ c δ = .ok (.bl true) ∧ e δ = .ok (f i) ∧ (vw = true → (f i).no = true)) : lcGo bnd c e vw (rngL lo n) [] = .ok ((List.range (n - lo).toNat).map f) := by
  unfold rngL
  exact lc_map f (by simpa using hl) fun i hi => hs i (by simpa using hi)
theorem sz {n : Nat} (h : n ≤ 1000000) : n ≤ sizeLine := by rw [sizeLine_eq]; omega
theorem sz1 {n : Nat} (h : n < 1000000) : n < sizeLine := by rw [sizeLine_eq]; omega
theorem smallN {n : Nat} (h : n ≤ 1000000) : smallI n := smallI_of (by omega) (by omega)
theorem atN {α : Type} {xs : List α} {i : Nat} : atI xs (i : Int) = xs[i]? := by
  unfold L2.atI L2.ixN
  by_cases h : i < xs.length
  · simp [h]
  · simp [h]
theorem atI_of {α : Type} {xs : List α} {i : Int} (h : 0 ≤ i) : atI xs i = xs[i.toNat]? := by
  obtain ⟨n, rfl⟩ := Int.eq_ofNat_of_zero_le h
  exact atN
end PX

/-! PX, part p (second layer): typed data: turns, tablets, places. -/
namespace PX
open PySem PySem.Spec PyProof.Rows L2

@[simp] theorem sz_lit0 : (0 : Nat) ≤ sizeLine := by rw [sizeLine_eq]; omega
@[simp] theorem sz_lit1 : (1 : Nat) ≤ sizeLine := by rw [sizeLine_eq]; omega
@[simp] theorem sz_lit2 : (2 : Nat) ≤ sizeLine := by rw [sizeLine_eq]; omega
@[simp] theorem sz_lit3 : (3 : Nat) ≤ sizeLine := by rw [sizeLine_eq]; omega
@[simp] theorem sz_lit4 : (4 : Nat) ≤ sizeLine := by rw [sizeLine_eq]; omega
@[simp] theorem sz_lit5 : (5 : Nat) ≤ sizeLine := by rw [sizeLine_eq]; omega
@[simp] theorem sz_lit6 : (6 : Nat) ≤ sizeLine := by rw [sizeLine_eq]; omega
@[simp] theorem sz_lit7 : (7 : Nat) ≤ sizeLine := by rw [sizeLine_eq]; omega
@[simp] theorem sz_lit8 : (8 : Nat) ≤ sizeLine := by rw [sizeLine_eq]; omega
@[simp] theorem sz_lit9 : (9 : Nat) ≤ sizeLine := by rw [sizeLine_eq]; omega
@[simp] theorem sz_lit10 : (10 : Nat) ≤ sizeLine := by rw [sizeLine_eq]; omega
@[simp] theorem sz_lit11 : (11 : Nat) ≤ sizeLine := by rw [sizeLine_eq]; omega
@[simp] theorem sz_lit12 : (12 : Nat) ≤ sizeLine := by rw [sizeLine_eq]; omega
@[simp] theorem sz_lit13 : (13 : Nat) ≤ sizeLine := by rw [sizeLine_eq]; omega
@[simp] theorem sz_lit14 : (14 : Nat) ≤ sizeLine := by rw [sizeLine_eq]; omega
@[simp] theorem sz_lit15 : (15 : Nat) ≤ sizeLine := by rw [sizeLine_eq]; omega
@[simp] theorem sz_lit16 : (16 : Nat) ≤ sizeLine := by rw [sizeLine_eq]; omega
@[simp] theorem sz_lit17 : (17 : Nat) ≤ sizeLine := by rw [sizeLine_eq]; omega
@[simp] theorem sz_lit18 : (18 : Nat) ≤ sizeLine := by rw [sizeLine_eq]; omega
@[simp] theorem sz_lit19 : (19 : Nat) ≤ sizeLine := by rw [sizeLine_eq]; omega
@[simp] theorem sz_lit20 : (20 : Nat) ≤ sizeLine := by rw [sizeLine_eq]; omega
@[simp] theorem sz_lit21 : (21 : Nat) ≤ sizeLine := by rw [sizeLine_eq]; omega
@[simp] theorem sz_lit22 : (22 : Nat) ≤ sizeLine := by rw [sizeLine_eq]; omega
@[simp] theorem sz_lit23 : (23 : Nat) ≤ sizeLine := by rw [sizeLine_eq]; omega
@[simp] theorem sz_lit24 : (24 : Nat) ≤ sizeLine := by rw [sizeLine_eq]; omega
@[simp] theorem sz_lit25 : (25 : Nat) ≤ sizeLine := by rw [sizeLine_eq]; omega
@[simp] theorem sz_lit26 : (26 : Nat) ≤ sizeLine := by rw [sizeLine_eq]; omega
/-- flat or nested data, of a depth -/
def D.pl : Nat → D → Bool
  | _, .non => true
  | _, .bl _ => true
  | _, .int _ => true
  | _, .str _ => true
  | n + 1, .tup xs => xs.all (D.pl n)
  | n + 1, .box o .lst xs => !o && xs.all (D.pl n)
  | _, _ => false
theorem pl_no : ∀ {n : Nat} {d : D}, d.pl n = true → d.no = true
  | n, .non, _ => no_non
  | n, .bl _, _ => no_bl
  | n, .int _, _ => no_int
  | n, .str _, _ => no_str
  | n + 1, .tup xs, h => by
    rw [no_tup]
    exact nos_of fun d hd => pl_no (List.all_eq_true.mp h d hd)
  | n + 1, .box o .lst xs, h => by
    obtain ⟨h1, h2⟩ := and_t h
    rw [no_box, h1, nos_of fun d hd => pl_no (List.all_eq_true.mp h2 d hd)]
    rfl
  | 0, .tup _, h => by cases h
  | 0, .box _ k _, h => by cases k <;> cases h
  | _ + 1, .box _ (.dk _) _, h => by cases h
  | _ + 1, .box _ (.dt _) _, h => by cases h
  | _ + 1, .box _ (.ob _ _) _, h => by cases h
  | 0, .dead, h => by cases h
  | _ + 1, .dead, h => by cases h
  | 0, .scr _, h => by cases h
  | _ + 1, .scr _, h => by cases h
  | 0, .ctup _, h => by cases h
  | _ + 1, .ctup _, h => by cases h
  | 0, .exv _ _, h => by cases h
  | _ + 1, .exv _ _, h => by cases h
theorem pl_nos {n : Nat} {xs : List D} (h : xs.all (D.pl n) = true) : D.nos xs = true := nos_of fun d hd => pl_no (List.all_eq_true.mp h d hd)

@[simp] theorem pl_non {n : Nat} : D.pl n .non = true := by cases n <;> rfl
@[simp] theorem pl_bl {n : Nat} {b : Bool} : D.pl n (.bl b) = true := by cases n <;> rfl
@[simp] theorem pl_int {n : Nat} {b : Int} : D.pl n (.int b) = true := by cases n <;> rfl
@[simp] theorem pl_str {n : Nat} {b : Str} : D.pl n (.str b) = true := by cases n <;> rfl
@[simp] theorem pl_tup {n : Nat} {xs : List D} : D.pl (n + 1) (.tup xs) = xs.all (D.pl n) := nr rfl
@[simp] theorem pl_box {n : Nat} {o : Bool} {xs : List D} : D.pl (n + 1) (.box o .lst xs) = (!o && xs.all (D.pl n)) := nr rfl
theorem frs_map {α : Type} (f : α → D) (h : ∀ x, (f x).fr = true) : ∀ xs : List α, D.frs (xs.map f) = true
  | [] => frs_nil
  | x :: xs => by simp [h, frs_map f h xs]
/-- what a lent call gives -/
def frC : Res D → Res D
  | .ok d => if d.fr then .ok d else .stuck
  | r => r
@[simp] theorem lend_own {F : List D → Res D} {ds : List D} (h : D.nos ds = false) : lend F ds = frC (F (D.frzs ds)) := by
  unfold lend frC
  rw [if_neg (by rw [h]; simp)] <;> rfl
@[simp] theorem frC_ok {d : D} (h : d.fr = true) : frC (.ok d) = .ok d := if_pos h
@[simp low] theorem frzs_mapF {α : Type} {f : α → D} : ∀ {xs : List α}, D.frzs (xs.map f) = xs.map fun x => (f x).frz
  | [] => frzs_nil
  | x :: xs => by simp [frzs_mapF (xs := xs)]
@[simp low] theorem nos_mapF {α : Type} {f : α → D} {xs : List α} (h : ∀ x, (f x).no = true) : D.nos (xs.map f) = true := nos_map _ h _
@[simp low] theorem frs_mapF {α : Type} {f : α → D} {xs : List α} (h : ∀ x, (f x).fr = true) : D.frs (xs.map f) = true := frs_map f h _
@[simp] theorem lcD_tup {xs : List D} {go : List D → Res (List D)} (h : D.nos xs = true) : lcD (.tup xs) go = (go xs).bind fun ys => .ok (.box true .lst ys) := lcD_of (items_tupp h)
@[simp] theorem lcD_box {o : Bool} {xs : List D} {go : List D → Res (List D)} (h : D.nos xs = true) : lcD (.box o .lst xs) go = (go xs).bind fun ys => .ok (.box true .lst ys) := lcD_of (items_box h)
theorem ite_nx {c : Prop} [Decidable c] {a b : List D} : (if c then Out.nx a else Out.nx b) = Out.nx (if c then a else b) := by split <;> rfl
theorem ite_consD {c : Prop} [Decidable c] {x y : D} {a b : List D} : (if c then x :: a else y :: b) = (if c then x else y) :: (if c then a else b) := by split <;> rfl
theorem ite_intD {c : Prop} [Decidable c] {x y : Int} : (if c then D.int x else D.int y) = .int (if c then x else y) := by split <;> rfl
theorem zipIdx_lt {α : Type} {xs : List α} {p : α × Nat} (h : p ∈ xs.zipIdx) : p.2 < xs.length ∧ xs[p.2]? = some p.1 := by
  obtain ⟨j, hj⟩ := List.getElem?_of_mem h
  rw [List.getElem?_zipIdx] at hj
  cases ec : xs[j]? with
  | none => rw [ec] at hj; cases hj
  | some c =>
    rw [ec] at hj
    cases hj
    have := (List.getElem?_eq_some_iff.mp ec).1
    rw [Nat.zero_add]
    exact ⟨this, ec⟩
@[simp] theorem ints_comp {α : Type} {f : α → Int} {xs : List α} : intsOf (xs.map (D.int ∘ f)) = some (xs.map f) := by
  rw [← List.map_map]
  exact ints_map
@[simp] theorem ints_fun {α : Type} {f : α → Int} {xs : List α} : intsOf (xs.map fun x => D.int (f x)) = some (xs.map f) := ints_comp (f := f)
@[simp] theorem bls_comp {α : Type} {f : α → Bool} {xs : List α} : blsOf (xs.map (D.bl ∘ f)) = some (xs.map f) := by
  rw [← List.map_map]
  exact bls_map
@[simp] theorem bls_fun {α : Type} {f : α → Bool} {xs : List α} : blsOf (xs.map fun x => D.bl (f x)) = some (xs.map f) := bls_comp (f := f)
@[simp] theorem strs_comp {α : Type} {f : α → Str} {xs : List α} : strsOf (xs.map (D.str ∘ f)) = some (xs.map f) := by
  rw [← List.map_map]
  exact strs_map
@[simp] theorem strs_fun {α : Type} {f : α → Str} {xs : List α} : strsOf (xs.map fun x => D.str (f x)) = some (xs.map f) := strs_comp (f := f)
/-! ### letters, turns, tablets, places -/
def letD (c : Nat) : D := .str ⟨#[c]⟩
@[simp] theorem no_letD {x : Nat} : (letD x).no = true := by simp [letD]
@[simp] theorem frz_letD {x : Nat} : (letD x).frz = letD x := by simp [letD]
@[simp] theorem loc_letD {x : Nat} : locD (some (letD x)) = .ok (letD x) := by simp [letD]
@[simp] theorem ret_letD {x : Nat} : retO (some (letD x)) = .rt (letD x) := by simp [letD]
@[simp] theorem nos_letD {xs : List (Nat)} : D.nos (xs.map letD) = true := nos_map _ (fun _ => no_letD) _
@[simp] theorem frzs_letD {xs : List (Nat)} : D.frzs (xs.map letD) = xs.map letD := D.frzs_nos _ nos_letD
@[simp] theorem pl_letD {x : Nat} {n : Nat} : D.pl (n) (letD x) = true := by simp [letD]
@[simp] theorem fr_letD {x : Nat} : (letD x).fr = true := by simp [letD]
@[simp] theorem frs_letD {xs : List (Nat)} : D.frs (xs.map letD) = true := frs_map _ (fun _ => fr_letD) _
/-- a text of these letters -/
def txD (cs : List Nat) : D := .str ⟨cs.toArray⟩
@[simp] theorem no_txD {x : List Nat} : (txD x).no = true := by simp [txD]
@[simp] theorem frz_txD {x : List Nat} : (txD x).frz = txD x := by simp [txD]
@[simp] theorem loc_txD {x : List Nat} : locD (some (txD x)) = .ok (txD x) := by simp [txD]
@[simp] theorem ret_txD {x : List Nat} : retO (some (txD x)) = .rt (txD x) := by simp [txD]
@[simp] theorem nos_txD {xs : List (List Nat)} : D.nos (xs.map txD) = true := nos_map _ (fun _ => no_txD) _
@[simp] theorem frzs_txD {xs : List (List Nat)} : D.frzs (xs.map txD) = xs.map txD := D.frzs_nos _ nos_txD
@[simp] theorem pl_txD {x : List Nat} {n : Nat} : D.pl (n) (txD x) = true := by simp [txD]
@[simp] theorem fr_txD {x : List Nat} : (txD x).fr = true := by simp [txD]
@[simp] theorem frs_txD {xs : List (List Nat)} : D.frs (xs.map txD) = true := frs_map _ (fun _ => fr_txD) _
@[simp] theorem items_tx {cs : List Nat} : itemsOf (txD cs) = some (cs.map letD) := nr rfl
theorem join_tx {o : Bool} {cs : List Nat} (h : cs.length ≤ 1000000) : mthD .join (.str "") (.box o .lst (cs.map letD)) = .ok (txD cs) := mth_join0 h
inductive T where
  | f | b | i
  deriving DecidableEq
def T.c : T → Nat
  | .f => 102 | .b => 98 | .i => 105
def T.v : T → Int
  | .f => 1 | .b => -1 | .i => 0
def T.m : T → Fin 4
  | .f => 1 | .b => 3 | .i => 0
def T.d (t : T) : D := .str ⟨#[t.c]⟩
theorem T.c_inj {t u : T} (h : t.c = u.c) : t = u := by cases t <;> cases u <;> first | rfl | cases h
@[simp] theorem no_T_d {x : T} : (T.d x).no = true := by simp [T.d]
@[simp] theorem frz_T_d {x : T} : (T.d x).frz = T.d x := by simp [T.d]
@[simp] theorem loc_T_d {x : T} : locD (some (T.d x)) = .ok (T.d x) := by simp [T.d]
@[simp] theorem ret_T_d {x : T} : retO (some (T.d x)) = .rt (T.d x) := by simp [T.d]
@[simp] theorem nos_T_d {xs : List (T)} : D.nos (xs.map T.d) = true := nos_map _ (fun _ => no_T_d) _
@[simp] theorem frzs_T_d {xs : List (T)} : D.frzs (xs.map T.d) = xs.map T.d := D.frzs_nos _ nos_T_d
@[simp] theorem pl_T_d {x : T} {n : Nat} : D.pl (n) (T.d x) = true := by simp [T.d]
@[simp] theorem fr_T_d {x : T} : (T.d x).fr = true := by simp [T.d]
@[simp] theorem frs_T_d {xs : List (T)} : D.frs (xs.map T.d) = true := frs_map _ (fun _ => fr_T_d) _
def tsD (ts : List T) : D := .str ⟨(ts.map T.c).toArray⟩
@[simp] theorem no_tsD {x : List T} : (tsD x).no = true := by simp [tsD]
@[simp] theorem frz_tsD {x : List T} : (tsD x).frz = tsD x := by simp [tsD]
@[simp] theorem loc_tsD {x : List T} : locD (some (tsD x)) = .ok (tsD x) := by simp [tsD]
@[simp] theorem ret_tsD {x : List T} : retO (some (tsD x)) = .rt (tsD x) := by simp [tsD]
@[simp] theorem nos_tsD {xs : List (List T)} : D.nos (xs.map tsD) = true := nos_map _ (fun _ => no_tsD) _
@[simp] theorem frzs_tsD {xs : List (List T)} : D.frzs (xs.map tsD) = xs.map tsD := D.frzs_nos _ nos_tsD
@[simp] theorem pl_tsD {x : List T} {n : Nat} : D.pl (n) (tsD x) = true := by simp [tsD]
@[simp] theorem fr_tsD {x : List T} : (tsD x).fr = true := by simp [tsD]
@[simp] theorem frs_tsD {xs : List (List T)} : D.frs (xs.map tsD) = true := frs_map _ (fun _ => fr_tsD) _
theorem d_f : T.d .f = .str "f" := nr rfl
theorem d_b : T.d .b = .str "b" := nr rfl
theorem d_i : T.d .i = .str "i" := nr rfl
@[simp] theorem items_ts {ts : List T} : itemsOf (tsD ts) = some (ts.map T.d) := by
  refine (items_str).trans ?_
  simp [List.map_map]
  exact fun t _ => rfl
@[simp] theorem forO_ts {tg : Tg} {b : List D → Out} {δ : List D} {ts : List T} : forO tg b δ (tsD ts) = forGo (fun x δ => bindTg tg x δ) b (ts.map T.d) δ := forO_of items_ts
theorem join_ts {o : Bool} {ts : List T} (h : ts.length ≤ 1000000) : mthD .join (.str "") (.box o .lst (ts.map T.d)) = .ok (tsD ts) := by
  have := mth_join0 (o := o) (cs := ts.map T.c) (by simpa using h)
  rw [List.map_map] at this
  exact this
theorem ix_ts {ts : List T} {i : Int} (h : ts.length ≤ sizeLine) : ixD (tsD ts) (.int i) = .opt ((atI ts i).map T.d) := by
  unfold tsD
  have h1 : (⟨(ts.map T.c).toArray⟩ : Str).length ≤ sizeLine := by
    show (ts.map T.c).toArray.size ≤ _
    simpa using h
  rw [ix_str h1]
  show Res.opt ((atI (ts.map T.c) i).map fun c => D.str ⟨#[c]⟩) = _
  rw [atI_map]
  cases atI ts i <;> rfl
theorem len_ts {ts : List T} (h : ts.length ≤ sizeLine) : bltD .len [tsD ts] = .ok (.int ts.length) := by
  unfold tsD
  have e : (⟨(ts.map T.c).toArray⟩ : Str).length = ts.length := by
    show (ts.map T.c).toArray.size = _
    simp
  rw [len_str (by rw [e]; exact h), e]
theorem chars_inj : ∀ {a b : List T}, a.map T.c = b.map T.c → a = b
  | [], [], _ => rfl
  | [], _ :: _, h => by cases h
  | _ :: _, [], h => by cases h
  | x :: xs, y :: ys, h => by
    injection h with h1 h2
    rw [T.c_inj h1, chars_inj h2]
theorem ts_inj {a b : List T} : (⟨(a.map T.c).toArray⟩ : Str) = ⟨(b.map T.c).toArray⟩ ↔ a = b := ⟨fun h => by
  injection h with h
  exact chars_inj (by simpa using h), fun h => by rw [h]⟩
@[simp] theorem eq_ts {a b : List T} : cmpD .eq (tsD a) (tsD b) = .ok (.bl (decide (a = b))) := by
  show cmpD .eq (.str _) (.str _) = _
  rw [eq_str]
  exact congrArg (fun b => Res.ok (D.bl b)) (decide_eq_decide.mpr ts_inj)
@[simp] theorem eq_T {a b : T} : cmpD .eq (T.d a) (T.d b) = .ok (.bl (decide (a = b))) := by cases a <;> cases b <;> exact rfl
@[simp] theorem ne_T {a b : T} : cmpD .ne (T.d a) (T.d b) = .ok (.bl (!decide (a = b))) := by cases a <;> cases b <;> exact rfl
@[simp] theorem eq_Tf {a : T} : cmpD .eq (T.d a) (.str "f") = .ok (.bl (decide (a = .f))) := by cases a <;> exact rfl
@[simp] theorem eq_Tb {a : T} : cmpD .eq (T.d a) (.str "b") = .ok (.bl (decide (a = .b))) := by cases a <;> exact rfl
@[simp] theorem eq_Ti {a : T} : cmpD .eq (T.d a) (.str "i") = .ok (.bl (decide (a = .i))) := by cases a <;> exact rfl
theorem bif_ix {t : T} : mthD .index (.str "bif") t.d = .ok (.int (t.v + 1)) := by cases t <;> kernel_rfl
structure Cd where
  s : Bool
  h0 : Nat
  h1 : Nat
  h2 : Nat
  h3 : Nat
  st : Fin 4
  deriving DecidableEq
def layD (s : Bool) : D := .str (if s then "S" else "Z")
@[simp] theorem no_layD {x : Bool} : (layD x).no = true := by simp [layD]
@[simp] theorem frz_layD {x : Bool} : (layD x).frz = layD x := by simp [layD]
@[simp] theorem loc_layD {x : Bool} : locD (some (layD x)) = .ok (layD x) := by simp [layD]
@[simp] theorem ret_layD {x : Bool} : retO (some (layD x)) = .rt (layD x) := by simp [layD]
@[simp] theorem nos_layD {xs : List (Bool)} : D.nos (xs.map layD) = true := nos_map _ (fun _ => no_layD) _
@[simp] theorem frzs_layD {xs : List (Bool)} : D.frzs (xs.map layD) = xs.map layD := D.frzs_nos _ nos_layD
@[simp] theorem pl_layD {x : Bool} {n : Nat} : D.pl (n) (layD x) = true := by simp [layD]
@[simp] theorem fr_layD {x : Bool} : (layD x).fr = true := by simp [layD]
@[simp] theorem frs_layD {xs : List (Bool)} : D.frs (xs.map layD) = true := frs_map _ (fun _ => fr_layD) _
@[simp] theorem eq_lay {s : Bool} : cmpD .eq (layD s) (.str "S") = .ok (.bl s) := by cases s <;> exact rfl
@[simp] theorem eq_layz {s : Bool} : cmpD .eq (layD s) (.str "Z") = .ok (.bl (!s)) := by cases s <;> exact rfl
def stD (s : Fin 4) : D := .int (s.val : Int)
def Cd.hs (c : Cd) : List Nat := [c.h0, c.h1, c.h2, c.h3]
def Cd.hole (c : Cd) (k : Fin 4) : Nat := match k with
  | 0 => c.h0 | 1 => c.h1 | 2 => c.h2 | 3 => c.h3
def Cd.d (c : Cd) : D := .tup [layD c.s, txD c.hs, .int (c.st.val : Int)]
@[simp] theorem no_Cd_d {x : Cd} : (Cd.d x).no = true := by simp [Cd.d]
@[simp] theorem frz_Cd_d {x : Cd} : (Cd.d x).frz = Cd.d x := by simp [Cd.d]
@[simp] theorem loc_Cd_d {x : Cd} : locD (some (Cd.d x)) = .ok (Cd.d x) := by simp [Cd.d]
@[simp] theorem ret_Cd_d {x : Cd} : retO (some (Cd.d x)) = .rt (Cd.d x) := by simp [Cd.d]
@[simp] theorem nos_Cd_d {xs : List (Cd)} : D.nos (xs.map Cd.d) = true := nos_map _ (fun _ => no_Cd_d) _
@[simp] theorem frzs_Cd_d {xs : List (Cd)} : D.frzs (xs.map Cd.d) = xs.map Cd.d := D.frzs_nos _ nos_Cd_d
@[simp] theorem pl_Cd_d {x : Cd} {n : Nat} : D.pl (n + 1) (Cd.d x) = true := by simp [Cd.d]
@[simp] theorem fr_Cd_d {x : Cd} : (Cd.d x).fr = true := by simp [Cd.d]
@[simp] theorem frs_Cd_d {xs : List (Cd)} : D.frs (xs.map Cd.d) = true := frs_map _ (fun _ => fr_Cd_d) _
theorem hole_at {c : Cd} {k : Int} (h0 : 0 ≤ k) (h : k < 4) : ixD (txD c.hs) (.int k) = .ok (letD (c.hole (Fin.ofNat 4 k.toNat))) := by
  obtain ⟨n, rfl⟩ := Int.eq_ofNat_of_zero_le h0
  have : ixD (txD c.hs) (.int n) = .opt ((atI c.hs n).map letD) := by
    refine (ix_str (z := ⟨c.hs.toArray⟩) (sz (show 4 ≤ 1000000 by omega))).trans ?_
    rfl
  rw [this, atN]
  have hn : n < 4 := by omega
  rcases (show n = 0 ∨ n = 1 ∨ n = 2 ∨ n = 3 from by omega) with rfl | rfl | rfl | rfl <;> rfl
structure Pl where
  a : Nat
  b : Nat
  s : Nat
  deriving DecidableEq
def Pl.d (p : Pl) : D := .tup [letD p.a, letD p.b, letD p.s]
@[simp] theorem no_Pl_d {x : Pl} : (Pl.d x).no = true := by simp [Pl.d]
@[simp] theorem frz_Pl_d {x : Pl} : (Pl.d x).frz = Pl.d x := by simp [Pl.d]
@[simp] theorem loc_Pl_d {x : Pl} : locD (some (Pl.d x)) = .ok (Pl.d x) := by simp [Pl.d]
@[simp] theorem ret_Pl_d {x : Pl} : retO (some (Pl.d x)) = .rt (Pl.d x) := by simp [Pl.d]
@[simp] theorem nos_Pl_d {xs : List (Pl)} : D.nos (xs.map Pl.d) = true := nos_map _ (fun _ => no_Pl_d) _
@[simp] theorem frzs_Pl_d {xs : List (Pl)} : D.frzs (xs.map Pl.d) = xs.map Pl.d := D.frzs_nos _ nos_Pl_d
@[simp] theorem pl_Pl_d {x : Pl} {n : Nat} : D.pl (n + 1) (Pl.d x) = true := by simp [Pl.d]
@[simp] theorem fr_Pl_d {x : Pl} : (Pl.d x).fr = true := by simp [Pl.d]
@[simp] theorem frs_Pl_d {xs : List (Pl)} : D.frs (xs.map Pl.d) = true := frs_map _ (fun _ => fr_Pl_d) _
def Cd.top (c : Cd) : Nat := c.hole c.st
def Cd.bot (c : Cd) : Nat := c.hole (c.st + 2)
def Cd.tw (c : Cd) (t : T) : Int := if c.s then t.v else 0 - t.v
def Cd.turn (c : Cd) (t : T) : Cd := { c with st := c.st + t.m }
def slant (v : Int) : Nat := if v = 1 then 115 else if v = -1 then 122 else 111
def Cd.pl (c : Cd) (t : T) : Pl := ⟨(c.turn t).top, (c.turn t).bot, slant (c.tw t)⟩
theorem tw_turn {c : Cd} {t u : T} : (c.turn t).tw u = c.tw u := nr rfl
theorem zos_at {c : Cd} {t : T} : ixD (.str "zos") (.int (c.tw t + 1)) = .ok (letD (slant (c.tw t))) := by
  have : c.tw t = 1 ∨ c.tw t = -1 ∨ c.tw t = 0 := by
    unfold Cd.tw
    cases c.s <;> cases t <;> decide
  rcases this with e | e | e <;> rw [e] <;> exact ix_strAt (sz (show 3 ≤ 1000000 by omega)) (by decide +kernel)
theorem st_turn {c : Cd} {t : T} : ((c.st.val : Int) + t.v) % 4 = ((c.turn t).st.val : Int) := by
  have : ∀ (s : _root_.Fin 4) (t : T), ((s.val : Int) + t.v) % 4 = ((s + t.m).val : Int) := fun s t => by cases t <;> revert s <;> decide
  exact this c.st t
theorem turn_d {c : Cd} {t : T} : (c.turn t).d = .tup [layD c.s, txD c.hs, .int (((c.st.val : Int) + t.v) % 4)] := by
  rw [st_turn]
  rfl
theorem top_at {c : Cd} : ixD (txD c.hs) (.int (c.st.val : Int)) = .ok (letD c.top) := by
  rw [hole_at (by omega) (by omega)]
  have : Fin.ofNat 4 ((c.st.val : Int)).toNat = c.st := (show ∀ s : _root_.Fin 4, Fin.ofNat 4 ((s.val : Int)).toNat = s by decide) _
  rw [this]
  rfl
theorem bot_at {c : Cd} : ixD (txD c.hs) (.int (((c.st.val : Int) + 2) % 4)) = .ok (letD c.bot) := by
  rw [hole_at (by omega) (by omega)]
  have : Fin.ofNat 4 (((c.st.val : Int) + 2) % 4).toNat = c.st + 2 := (show ∀ s : _root_.Fin 4, Fin.ofNat 4 (((s.val : Int) + 2) % 4).toNat = s + 2 by decide) _
  rw [this]
  rfl
/-! ### lists, zipped -/
theorem zipL_map {α β : Type} {f : α → D} {g : β → D} : ∀ {xs : List α} {ys : List β}, zipL (xs.map f) (ys.map g) = (xs.zip ys).map fun p => .tup [f p.1, g p.2]
  | [], _ => by simp [zipL]
  | _ :: _, [] => by simp [zipL]
  | x :: xs, y :: ys => by
    have := zipL_map (f := f) (g := g) (xs := xs) (ys := ys)
    unfold zipL at this
    unfold zipL
    simp [this]
theorem enumL_map {α : Type} {f : α → D} {xs : List α} : enumL (xs.map f) = xs.zipIdx.map fun p => .tup [.int (p.2 : Nat), f p.1] := by
  unfold enumL
  rw [List.zipIdx_map, List.map_map]
  rfl
theorem nos_all {α : Type} {f : α → D} {xs : List α} (h : ∀ x, (f x).no = true) : D.nos (xs.map f) = true := nos_map _ h _
/-- rows of turns: a frozen list of texts; a draft; a row of places; a band -/
def drD (cs : List Cd) : D := .box false .lst (cs.map Cd.d)
@[simp] theorem no_drD {x : List Cd} : (drD x).no = true := by simp [drD]
@[simp] theorem frz_drD {x : List Cd} : (drD x).frz = drD x := by simp [drD]
@[simp] theorem loc_drD {x : List Cd} : locD (some (drD x)) = .ok (drD x) := by simp [drD]
@[simp] theorem ret_drD {x : List Cd} : retO (some (drD x)) = .rt (drD x) := by simp [drD]
@[simp] theorem nos_drD {xs : List (List Cd)} : D.nos (xs.map drD) = true := nos_map _ (fun _ => no_drD) _
@[simp] theorem frzs_drD {xs : List (List Cd)} : D.frzs (xs.map drD) = xs.map drD := D.frzs_nos _ nos_drD
@[simp] theorem pl_drD {x : List Cd} {n : Nat} : D.pl (n + 2) (drD x) = true := by simp [drD]
def pnD (ps : List (List T)) : D := .box false .lst (ps.map tsD)
@[simp] theorem no_pnD {x : List (List T)} : (pnD x).no = true := by simp [pnD]
@[simp] theorem frz_pnD {x : List (List T)} : (pnD x).frz = pnD x := by simp [pnD]
@[simp] theorem loc_pnD {x : List (List T)} : locD (some (pnD x)) = .ok (pnD x) := by simp [pnD]
@[simp] theorem ret_pnD {x : List (List T)} : retO (some (pnD x)) = .rt (pnD x) := by simp [pnD]
@[simp] theorem nos_pnD {xs : List (List (List T))} : D.nos (xs.map pnD) = true := nos_map _ (fun _ => no_pnD) _
@[simp] theorem frzs_pnD {xs : List (List (List T))} : D.frzs (xs.map pnD) = xs.map pnD := D.frzs_nos _ nos_pnD
@[simp] theorem pl_pnD {x : List (List T)} {n : Nat} : D.pl (n + 1) (pnD x) = true := by simp [pnD]
def roD (o : Bool) (r : List Pl) : D := .box o .lst (r.map Pl.d)
@[simp] theorem loc_ro {o : Bool} {r : List Pl} : locD (some (roD o r)) = .ok (roD o r) := by simp [roD]
@[simp] theorem ret_ro {o : Bool} {r : List Pl} : retO (some (roD o r)) = .rt (roD o r) := by simp [roD]
@[simp] theorem frz_ro {o : Bool} {r : List Pl} : (roD o r).frz = roD false r := by simp [roD]
@[simp] theorem no_ro {o : Bool} {r : List Pl} : (roD o r).no = !o := by simp [roD]
@[simp] theorem fr_ro {r : List Pl} : (roD true r).fr = true := by simp [roD]
@[simp] theorem pl_ro {r : List Pl} {n : Nat} : D.pl (n + 2) (roD false r) = true := by simp [roD]
@[simp] theorem nos_ro {rs : List (List Pl)} : D.nos (rs.map (roD false)) = true := nos_map _ (fun _ => no_ro) _
@[simp] theorem frzs_ro {o : Bool} : ∀ {rs : List (List Pl)}, D.frzs (rs.map (roD o)) = rs.map (roD false)
  | [] => frzs_nil
  | r :: rs => by simp [frzs_ro (rs := rs)]
@[simp] theorem frs_ro {rs : List (List Pl)} : D.frs (rs.map (roD true)) = true := frs_map _ (fun _ => fr_ro) _
def bdD (o p : Bool) (rs : List (List Pl)) : D := .box o .lst (rs.map (roD p))
@[simp] theorem loc_bd {o p : Bool} {r : List (List Pl)} : locD (some (bdD o p r)) = .ok (bdD o p r) := by simp [bdD]
@[simp] theorem ret_bd {o p : Bool} {r : List (List Pl)} : retO (some (bdD o p r)) = .rt (bdD o p r) := by simp [bdD]
@[simp] theorem frz_bd {o p : Bool} {r : List (List Pl)} : (bdD o p r).frz = bdD false false r := by simp [bdD]
@[simp] theorem no_bd {r : List (List Pl)} : (bdD false false r).no = true := by simp [bdD]
@[simp] theorem fr_bd {r : List (List Pl)} : (bdD true true r).fr = true := by simp [bdD]
@[simp] theorem pl_bd {r : List (List Pl)} {n : Nat} : D.pl (n + 3) (bdD false false r) = true := by simp [bdD]
end PX

/-! PX, part q: how runs over instances and changed arguments are computed. -/
namespace PX
open PySem PySem.Spec PyProof.Rows L2

def newC (F : Option (List D → Res D)) (c : Str) (r : Res D) : Res D := match F with
  | none => .stuck
  | some F => r.bind fun x => newD F c (unT x)
def metC (F : Option (List D → Res D)) (c : Str) (r es : Res D) : Res D := match F with
  | none => .stuck
  | some F => r.bind fun x => clsK c x (es.bind fun y => lend F (x :: unT y))
section
variable {fn : Str → Option (List D → Res D)} {gl : Str → Option D} {ex : Xs} {δ : List D}
@[simp] theorem ev_fld {a : E} {f : Str} : ev fn gl (.fld a f) δ = (ev fn gl a δ).bind (fldD f) := nr rfl
@[simp] theorem ev_ixt {a b : E} : ev fn gl (.ixt a b) δ = (ev fn gl a δ).bind fun x => (ev fn gl b δ).bind fun y => ixtD x y := nr rfl
@[simp] theorem ev_fl {f : Str} : ev fn gl (.fl f) δ = .ok (.exv f []) := nr rfl
@[simp] theorem ev_new {c : Str} {es : E} : ev fn gl (.new c es) δ = newC (fn (keyX c "__init__")) c (ev fn gl es δ) := nr rfl
@[simp] theorem newC_some {F : List D → Res D} {c : Str} {r : Res D} : newC (some F) c r = r.bind fun x => newD F c (unT x) := nr rfl
@[simp] theorem ev_meth {c m : Str} {o es : E} : ev fn gl (.meth c m o es) δ = metC (fn (keyM c m)) c (ev fn gl o δ) (ev fn gl es δ) := nr rfl
@[simp] theorem metC_some {F : List D → Res D} {c : Str} {r es : Res D} : metC (some F) c r es = r.bind fun x => clsK c x (es.bind fun y => lend F (x :: unT y)) := nr rfl
@[simp] theorem ev_dcp {a : E} : ev fn gl (.dcp a) δ = (ev fn gl a δ).bind dcpD := nr rfl
@[simp] theorem dcpD_dk {o : Bool} {ks : List Key} {ds : List D} (h : D.nos ds = true) : dcpD (.box o (.dk ks) ds) = .ok (.box true (.dk ks) ds) := if_pos h
@[simp] theorem fldD_box {f c : Str} {o : Bool} {ns : List Str} {ds : List D} : fldD f (.box o (.ob c ns) ds) = .opt (fldL f ns ds) := nr rfl
@[simp] theorem clsK_box {c : Str} {o : Bool} {ns : List Str} {ds : List D} {k : Res D} : clsK c (.box o (.ob c ns) ds) k = k := if_pos rfl
@[simp] theorem ixtD_tup {xs : List D} {i : Int} : ixtD (.tup xs) (.int i) = .opt (L2.atI xs i) := nr rfl
@[simp] theorem newR_ok {s : D} {bs : List D} : newR (.ok (.tup (.non :: s :: bs))) = .ok s := nr rfl
@[simp] theorem newD_no {F : List D → Res D} {c : Str} {ds : List D} (h : D.nos ds = true) : newD F c ds = newR (F (.box true (.ob c []) [] :: ds)) := if_pos h
theorem newD_fr {F : List D → Res D} {c : Str} {ds : List D} {d : D} (e : newR (F (.box true (.ob c []) [] :: D.frzs ds)) = .ok d) (e2 : D.nos ds = true → newR (F (.box true (.ob c []) [] :: ds)) = .ok d) (k : d.fr = true) : newD F c ds = .ok d := by
  unfold newD
  split
  · rename_i h; exact e2 h
  · rw [e]
    simp [k]
/-! ### arguments -/
def ioB (i : Nat) (js : List Nat) : Option D → Res (D × Plc)
  | some b => if isOb b then .ok (b, some (i, js)) else .stuck
  | none => .stuck
theorem ioK_eq {d : D} {i : Nat} {js : List Nat} : ioK d i js = ioB i js (atP d js) := by
  unfold ioK ioB
  cases atP d js <;> rfl
@[simp] theorem ioB_box {i : Nat} {js : List Nat} {k : Kind} {ds : List D} : ioB i js (some (.box true k ds)) = .ok (.box true k ds, some (i, js)) := nr rfl
def ioO (go : D → Res (List Nat)) (i : Nat) : Option D → Res (D × Plc)
  | some .dead => .stuck
  | some d => (go d).bind fun js => ioB i js (atP d js)
  | none => .stuck
@[simp] theorem ioO_box {go : D → Res (List Nat)} {i : Nat} {o : Bool} {k : Kind} {ds : List D} : ioO go i (some (.box o k ds)) = (go (.box o k ds)).bind fun js => ioB i js (atP (.box o k ds) js) := nr rfl
@[simp] theorem ioO_tup {go : D → Res (List Nat)} {i : Nat} {ds : List D} : ioO go i (some (.tup ds)) = (go (.tup ds)).bind fun js => ioB i js (atP (.tup ds) js) := nr rfl
@[simp] theorem ioR_eq {i : Nat} {p : List E} : ioR fn gl i p δ = ioO (pthD fn gl p δ) i δ[i]? := by
  unfold ioR ioO
  cases δ[i]? with
  | none => rfl
  | some d => cases d <;> first | rfl | (dsimp only; congr 1; funext js; exact ioK_eq)
@[simp] theorem args_nil : argsD fn gl [] δ = .ok [] := nr rfl
@[simp] theorem args_io {i : Nat} {p : List E} {as : List Arg} : argsD fn gl (.io i p :: as) δ = (ioR fn gl i p δ).bind fun x => (argsD fn gl as δ).bind fun r => .ok (x :: r) := nr rfl
@[simp] theorem args_val {e : E} {as : List Arg} : argsD fn gl (.val e :: as) δ = ((ev fn gl e δ).bind (vlD e.view)).bind fun d => (argsD fn gl as δ).bind fun r => .ok ((d, none) :: r) := nr rfl
@[simp] theorem rbind_ok {α β : Type} {a : α} {f : α → Res β} : (Res.ok a).bind f = f a := nr rfl
@[simp] theorem rbind_exc {α β : Type} {c : Str} {fs : List D} {f : α → Res β} : (Res.exc c fs : Res α).bind f = .exc c fs := nr rfl
@[simp] theorem rx_ok {α : Type} {a : α} {f : α → RX} : Res.rx δ f (.ok a) = f a := nr rfl
@[simp] theorem rx_exc {α : Type} {c : Str} {fs : List D} {f : α → RX} : Res.rx δ f (.exc c fs : Res α) = .exc c fs δ := nr rfl
@[simp] theorem rxd_ok {a : D} {f : D → RX} : Res.rxd δ f (.ok a) = f a := nr rfl
@[simp] theorem rxd_exc {c : Str} {fs : List D} {f : D → RX} : Res.rxd δ f (.exc c fs) = .exc c fs δ := nr rfl
@[simp] theorem plIx_nil : plIx [] = [] := nr rfl
@[simp] theorem plIx_some {i : Nat} {js : List Nat} {ps : List Plc} : plIx (some (i, js) :: ps) = i :: plIx ps := nr rfl
@[simp] theorem plIx_none {ps : List Plc} : plIx (none :: ps) = plIx ps := nr rfl
@[simp] theorem dstN_nil : dstN [] = true := nr rfl
@[simp] theorem dstN_cons {i : Nat} {is : List Nat} : dstN (i :: is) = (!is.contains i && dstN is) := nr rfl
@[simp] theorem putL_some {i : Nat} {js : List Nat} {ps : List Plc} {b : D} {bs : List D} : putL δ (some (i, js) :: ps) (b :: bs) = (i, setP (δ.getD i .dead) js b) :: putL δ ps bs := nr rfl
@[simp] theorem putL_none {ps : List Plc} {b : D} {bs : List D} : putL δ (none :: ps) (b :: bs) = putL δ ps bs := nr rfl
@[simp] theorem putL_nil {bs : List D} : putL δ [] bs = [] := by cases bs <;> rfl
@[simp] theorem setL_nil : setL δ [] = δ := nr rfl
@[simp] theorem setL_cons {x : Nat × D} {r : List (Nat × D)} : setL δ (x :: r) = setL (δ.set x.1 x.2) r := nr rfl
@[simp] theorem putAll_eq {ps : List Plc} {bs : List D} : putAll δ ps bs = setL δ (putL δ ps bs) := nr rfl
@[simp] theorem xcE_ok {ps : List Plc} {d : D} {bs : List D} : xcE δ ps (.ok (.tup (d :: bs))) = if bs.length = ps.length then .ok d (putAll δ ps bs) else .stuck := nr rfl
@[simp] theorem xcE_exc {ps : List Plc} {c : Str} {bs : List D} : xcE δ ps (.exc c bs) = if bs.length = ps.length then .exc c [] (putAll δ ps bs) else .stuck := nr rfl
@[simp] theorem xcL_eq {F : List D → Res D} {l : List (D × Plc)} : xcL F δ l = if dstN (plIx (l.map (·.2))) then xcE δ (l.map (·.2)) (F (l.map (·.1))) else .stuck := nr rfl
def xcO (F : Option (List D → Res D)) (r : Res (List (D × Plc))) (δ : List D) : RX := match F with
  | none => .stuck
  | some F => r.rx δ (xcL F δ)
@[simp] theorem evx_xc {m : Str} {as : List Arg} : evx fn gl (.xc m as) δ = xcO (fn (keyX Str.empty m)) (argsD fn gl as δ) δ := by
  show xcR fn gl m as δ = _
  unfold xcR xcO
  cases fn (keyX Str.empty m) <;> rfl
@[simp] theorem xcO_some {F : List D → Res D} {r : Res (List (D × Plc))} : xcO (some F) r δ = r.rx δ (xcL F δ) := nr rfl
def xmO (F : Option (List D → Res D)) (c : Str) (x : Res (D × Plc)) (r : Res (List (D × Plc))) (δ : List D) : RX := match F with
  | none => .stuck
  | some F => x.rx δ (xcmG c F r δ)
@[simp] theorem evx_xcm {c m : Str} {i : Nat} {p : List E} {as : List Arg} : evx fn gl (.xcm c m i p as) δ = xmO (fn (keyX c m)) c (ioR fn gl i p δ) (argsD fn gl as δ) δ := by
  show xcmR fn gl c m i p as δ = _
  unfold xcmR xmO
  cases fn (keyX c m) <;> rfl
@[simp] theorem xmO_some {F : List D → Res D} {c : Str} {x : Res (D × Plc)} {r : Res (List (D × Plc))} : xmO (some F) c x r δ = x.rx δ (xcmG c F r δ) := nr rfl
@[simp] theorem xcmG_box {F : List D → Res D} {c : Str} {r : Res (List (D × Plc))} {ns : List Str} {ds : List D} {p : Plc} : xcmG c F r δ (.box true (.ob c ns) ds, p) = r.rx δ fun l => xcL F δ ((.box true (.ob c ns) ds, p) :: l) := by
  unfold xcmG
  rw [if_pos (by unfold recB; simp)]
@[simp] theorem stpD_ob {c f : Str} {ns : List Str} {ds : List D} : stpD (.box true (.ob c ns) ds) (.exv f []) = fldIx f ns := nr rfl
/-! ### other changes -/
def mutxO (r : RX) (i : Nat) : Option D → RX
  | some (.box true .lst ys) => r.bind fun d δ' => mutxE i (.box true .lst ys) d δ'
  | _ => .stuck
@[simp] theorem evx_mutx {i : Nat} {x : X} : evx fn gl (.mutx i x) δ = mutxO (evx fn gl x δ) i δ[i]? := by
  show (match δ[i]? with
    | some (.box true .lst ys) => (evx fn gl x δ).bind fun d δ' => mutxE i (.box true .lst ys) d δ'
    | _ => RX.stuck) = _
  unfold mutxO
  rfl
@[simp] theorem mutxO_lst {r : RX} {i : Nat} {ys : List D} : mutxO r i (some (.box true .lst ys)) = r.bind fun d δ' => mutxE i (.box true .lst ys) d δ' := nr rfl
@[simp] theorem rxb_ok {d : D} {f : D → List D → RX} : (RX.ok d δ).bind f = f d δ := nr rfl
@[simp] theorem rxb_exc {c : Str} {fs : List D} {f : D → List D → RX} : (RX.exc c fs δ).bind f = .exc c fs δ := nr rfl
def mutxF (i : Nat) (ys : List D) (x : D) (δ : List D) : Option D → RX
  | some (.box true .lst zs) => if ys.length = zs.length ∧ ys.length < sizeLine then .ok .non (δ.set i (.box true .lst (zs ++ [x]))) else .stuck
  | _ => .stuck
@[simp] theorem mutxE_lst {i : Nat} {ys : List D} {x : D} : mutxE i (.box true .lst ys) x δ = mutxF i ys x δ δ[i]? := by
  unfold mutxE mutxF
  cases δ[i]? with
  | none => rfl
  | some d => cases d <;> first | rfl | (rename_i o k zs; cases o <;> cases k <;> rfl)
@[simp] theorem mutxF_lst {i : Nat} {ys zs : List D} {x : D} (h : ys.length = zs.length ∧ ys.length < sizeLine) : mutxF i ys x δ (some (.box true .lst zs)) = .ok .non (δ.set i (.box true .lst (zs ++ [x]))) := if_pos h
theorem evx_mutp {i : Nat} {f f2 c : Str} {e : E} {ns : List Str} {ds : List D} {j1 j2 : Nat} (h : δ[i]? = some (.box true (.ob c ns) ds)) (h1 : fldIx f ns = some j1) (h2 : fldIx f2 ns = some j2) (hne : j1 ≠ j2) (hl : lstAt ds j1 = true) :
    evx fn gl (.mutp i f f2 e) δ = ((ev fn gl e δ).bind (vlD e.view)).rxd δ (mutpE δ i c ns ds j1 j2) := by
  show mutpR fn gl i f f2 e δ = _
  unfold mutpR
  rw [h]
  dsimp only
  rw [h1, h2]
  dsimp only
  rw [if_neg (by rw [hl]; simp [hne])]
  rfl
theorem evx_dpop {i : Nat} {p : List E} {k : E} {d b x : D} {js : List Nat} {r : D × D} (h : δ[i]? = some d) (hd : d ≠ .dead) (hp : pthD fn gl p δ d = .ok js) (ha : atP d js = some b) (hb : isDk b = true) (hk : ev fn gl k δ = .ok x) (hr : dpopD b x = some r) :
    evx fn gl (.dpop i p k) δ = .ok r.1 (δ.set i (setP d js r.2)) := by
  show dpopR fn gl i p k δ = _
  unfold dpopR
  rw [h]
  cases d <;> first | exact absurd rfl hd | skip
  all_goals
    dsimp only
    rw [hp]
    dsimp only
    rw [ha]
    dsimp only
    rw [if_pos hb, hk]
    dsimp only
    rw [hr]
    rfl
theorem evx_dclr {i : Nat} {p : List E} {d : D} {js : List Nat} {ks : List Key} {ds : List D} (h : δ[i]? = some d) (hd : d ≠ .dead) (hp : pthD fn gl p δ d = .ok js) (ha : atP d js = some (.box true (.dk ks) ds)) :
    evx fn gl (.dclr i p) δ = .ok .non (δ.set i (setP d js (.box true (.dk []) []))) := by
  show dclrR fn gl i p δ = _
  unfold dclrR
  rw [h]
  cases d <;> first | exact absurd rfl hd | skip
  all_goals
    dsimp only
    rw [hp]
    dsimp only
    rw [ha]
def clO (F : Option (List D → Res D)) (r : RX) : RX := match F with
  | none => .stuck
  | some F => r.bind fun ds δ1 => (lend F (unT ds)).rxd δ1 fun d => .ok d δ1
@[simp] theorem evx_ev {e : E} : evx fn gl (.ev e) δ = ((ev fn gl e δ).bind (vlD e.view)).rxd δ fun d => .ok d δ := nr rfl
@[simp] theorem evx_anil : evx fn gl .anil δ = .ok (.tup []) δ := nr rfl
@[simp] theorem evx_acons {x r : X} : evx fn gl (.acons x r) δ = (evx fn gl x δ).bind fun d δ1 => (evx fn gl r δ1).bind fun ds δ2 => .ok (.tup (d :: unT ds)) δ2 := nr rfl
@[simp] theorem evx_cl {f : Str} {a : X} : evx fn gl (.cl f a) δ = clO (fn f) (evx fn gl a δ) := by
  show (match fn f with
    | none => RX.stuck
    | some F => (evx fn gl a δ).bind fun ds δ1 => (lend F (unT ds)).rxd δ1 fun d => .ok d δ1) = _
  unfold clO
  cases fn f <;> rfl
@[simp] theorem clO_some {F : List D → Res D} {r : RX} : clO (some F) r = r.bind fun ds δ1 => (lend F (unT ds)).rxd δ1 fun d => .ok d δ1 := nr rfl
@[simp] theorem evx_ixt {x : X} {e : E} : evx fn gl (.ixt x e) δ = (evx fn gl x δ).bind fun d δ1 => (ev fn gl e δ1).rxd δ1 fun i => (ixtD d i).rxd δ1 fun y => .ok y δ1 := nr rfl
@[simp] theorem evx_tp {a : X} : evx fn gl (.tp a) δ = (evx fn gl a δ).bind fun ds δ1 => if (unT ds).length ≤ sizeLine then .ok (.tup (unT ds)) δ1 else .stuck := nr rfl
@[simp] theorem evy_t {e : E} : evy fn gl (.t e) δ = (ev fn gl e δ).rxd δ fun d => .ok d δ := nr rfl
@[simp] theorem evy_x {x : X} : evy fn gl (.x x) δ = evx fn gl x δ := nr rfl
@[simp] theorem evy_not {y : Y} : evy fn gl (.not_ y) δ = (evy fn gl y δ).bind notX := nr rfl
@[simp] theorem evy_and {a b : Y} : evy fn gl (.and_ a b) δ = (evy fn gl a δ).bind fun d δ' => cndX d (evy fn gl b δ') (.ok (.bl false) δ') := nr rfl
@[simp] theorem evy_or {a b : Y} : evy fn gl (.or_ a b) δ = (evy fn gl a δ).bind fun d δ' => cndX d (.ok (.bl true) δ') (evy fn gl b δ') := nr rfl
@[simp] theorem evy_one {y : Y} : evy fn gl (.one y) δ = evy fn gl y δ := nr rfl
@[simp] theorem cndX_t {a b : RX} : cndX (.bl true) a b = a := nr rfl
@[simp] theorem cndX_f {a b : RX} : cndX (.bl false) a b = b := nr rfl
@[simp] theorem cndX_d {p : Prop} [Decidable p] {a b : RX} : cndX (.bl (decide p)) a b = if p then a else b := by by_cases h : p <;> simp [h]
@[simp] theorem notX_bl {b : Bool} : notX (.bl b) δ = .ok (.bl (!b)) δ := nr rfl
@[simp] theorem ex_ify {y : Y} {a b : S} : exec fn gl ex (.ify y a b) δ = (evy fn gl y δ).out fun d δ' => cndO d (exec fn gl ex a δ') (exec fn gl ex b δ') := nr rfl
@[simp] theorem ex_rety {x : X} : exec fn gl ex (.rety x) δ = (evx fn gl x δ).out fun d _ => .rt d := nr rfl
/-! ### statements -/
@[simp] theorem ex_retx {e : E} : exec fn gl ex (.retx e) δ = ((ev fn gl e δ).bind (vlD e.view)).out δ fun d => .rtx d δ := nr rfl
@[simp] theorem ex_xret {x : X} : exec fn gl ex (.xret x) δ = (evx fn gl x δ).out fun d δ => .rtx d δ := nr rfl
@[simp] theorem ex_retxN : exec fn gl ex .retxN δ = .rtx .non δ := nr rfl
def rxmO (x : Str) (δ : List D) (j : Nat) : Option D → Out
  | some .dead => .stuck
  | some d => .rtx (.tup [.str x, d]) (δ.set j .dead)
  | none => .stuck
def rmO (x : Str) : Option D → Out
  | some .dead => .stuck
  | some d => .rt (.tup [.str x, d])
  | none => .stuck
@[simp] theorem ex_retxm {x : Str} {j : Nat} : exec fn gl ex (.retxm x j) δ = rxmO x δ j δ[j]? := nr rfl
@[simp] theorem ex_retm {x : Str} {j : Nat} : exec fn gl ex (.retm x j) δ = rmO x δ[j]? := nr rfl
theorem rxmO_some {x : Str} {j : Nat} {d : D} (h : locD (some d) = .ok d) : rxmO x δ j (some d) = .rtx (.tup [.str x, d]) (δ.set j .dead) := by
  cases d <;> first | rfl | cases h
theorem rmO_some {x : Str} {d : D} (h : locD (some d) = .ok d) : rmO x (some d) = .rt (.tup [.str x, d]) := by
  cases d <;> first | rfl | cases h
@[simp] theorem rxmO_str {x y : Str} {j : Nat} : rxmO x δ j (some (.str y)) = .rtx (.tup [.str x, .str y]) (δ.set j .dead) := nr rfl
@[simp] theorem rxmO_non {x : Str} {j : Nat} : rxmO x δ j (some .non) = .rtx (.tup [.str x, .non]) (δ.set j .dead) := nr rfl
@[simp] theorem rxmO_int {x : Str} {j : Nat} {y : Int} : rxmO x δ j (some (.int y)) = .rtx (.tup [.str x, .int y]) (δ.set j .dead) := nr rfl
@[simp] theorem rxmO_tup {x : Str} {j : Nat} {y : List D} : rxmO x δ j (some (.tup y)) = .rtx (.tup [.str x, .tup y]) (δ.set j .dead) := nr rfl
@[simp] theorem rxmO_box {x : Str} {j : Nat} {o : Bool} {k : Kind} {y : List D} : rxmO x δ j (some (.box o k y)) = .rtx (.tup [.str x, .box o k y]) (δ.set j .dead) := nr rfl
@[simp] theorem rmO_str {x y : Str} : rmO x (some (.str y)) = .rt (.tup [.str x, .str y]) := nr rfl
@[simp] theorem rmO_tup {x : Str} {y : List D} : rmO x (some (.tup y)) = .rt (.tup [.str x, .tup y]) := nr rfl
@[simp] theorem rmO_box {x : Str} {o : Bool} {k : Kind} {y : List D} : rmO x (some (.box o k y)) = .rt (.tup [.str x, .box o k y]) := nr rfl
@[simp] theorem rmO_int {x : Str} {y : Int} : rmO x (some (.int y)) = .rt (.tup [.str x, .int y]) := nr rfl
@[simp] theorem thn_rtx {d : D} {f : List D → Out} : (Out.rtx d δ).thn f = .rtx d δ := nr rfl
@[simp] theorem ex_tryx {b : S} {c : Str} {i : Nat} {e : E} : exec fn gl ex (.tryx b c i e) δ = if ex.es.contains c && ex.cx then tryO ex c (fun c' δ => hotX (δ.set i .dead) ((ev fn gl e (δ.set i (.exv c' []))).bind (vlD e.view))) (exec fn gl ex b δ) else .stuck := nr rfl
@[simp] theorem tryO_rtx {c : Str} {su : Str → List D → Out} {d : D} : tryO ex c su (.rtx d δ) = .rtx d δ := nr rfl
@[simp] theorem hotX_ok {d : D} (h : d.cl = true) : hotX δ (.ok d) = .rtx d δ := if_pos h
def frzpO (δ : List D) (i : Nat) (js : List Nat) : Option D → Out
  | some d => (match frzpD js d with
    | some d' => .nx (δ.set i d')
    | none => .stuck)
  | none => .stuck
@[simp] theorem ex_frzp {i : Nat} {js : List Nat} : exec fn gl ex (.frzp i js) δ = frzpO δ i js δ[i]? := nr rfl
def frzpN (δ : List D) (i : Nat) : Option D → Out
  | some d' => .nx (δ.set i d')
  | none => .stuck
@[simp] theorem frzpO_some {i : Nat} {js : List Nat} {d : D} : frzpO δ i js (some d) = frzpN δ i ((atP d js).map fun b => setP d js b.frz) := by
  show (match frzpD js d with
    | some d' => Out.nx (δ.set i d')
    | none => .stuck) = _
  unfold frzpD frzpN
  cases atP d js <;> rfl
@[simp] theorem frzpN_some {i : Nat} {d : D} : frzpN δ i (some d) = .nx (δ.set i d) := nr rfl
def putfO (ex : Xs) (f : Str) (go : D → Res (List Nat)) (i : Nat) (δ : List D) (d : D) : Option D → Out
  | none => .stuck
  | some .dead => .stuck
  | some c => putfP ex f δ i d c (go c)
@[simp] theorem ex_putf {i : Nat} {p : List E} {f : Str} {e : E} : exec fn gl ex (.putf i p f e) δ = ((ev fn gl e δ).bind (vlD e.view)).out δ fun d => putfO ex f (pthD fn gl p δ) i δ d δ[i]? := by
  show ((ev fn gl e δ).bind (vlD e.view)).out δ (putfS ex f (pthD fn gl p) i δ) = _
  congr 1
@[simp] theorem putfO_box {f : Str} {go : D → Res (List Nat)} {i : Nat} {d : D} {o : Bool} {k : Kind} {ds : List D} : putfO ex f go i δ d (some (.box o k ds)) = putfP ex f δ i d (.box o k ds) (go (.box o k ds)) := nr rfl
def putfA (ex : Xs) (f : Str) (c : D) (js : List Nat) (δ : List D) (i : Nat) (d : D) : Option D → Out
  | none => .stuck
  | some b => putfGo ex f c js δ i b d
@[simp] theorem putfP_ok {f : Str} {i : Nat} {d c : D} {js : List Nat} : putfP ex f δ i d c (.ok js) = putfA ex f c js δ i d (atP c js) := by
  show (match atP c js with
    | none => Out.stuck
    | some b => putfGo ex f c js δ i b d) = _
  unfold putfA
  cases atP c js <;> rfl
@[simp] theorem putfA_ob {f c : Str} {x : D} {js : List Nat} {i : Nat} {d : D} {ns : List Str} {ds : List D} (h : (c, f) ∈ ex.fs) (hl : ns.length < 500) : putfA ex f x js δ i d (some (.box true (.ob c ns) ds)) = .nx (δ.set i (setP x js (.box true (.ob c (putNs f ns)) (putFs f d ns ds)))) := by
  show (match putfB ex.fs f d (.box true (.ob c ns) ds) with
    | some b' => Out.nx (δ.set i (setP x js b'))
    | none => .stuck) = _
  have : putfB ex.fs f d (.box true (.ob c ns) ds) = some (.box true (.ob c (putNs f ns)) (putFs f d ns ds)) := if_pos ⟨by simpa using h, hl⟩
  rw [this]
@[simp] theorem putNs_nil {f : Str} : putNs f [] = [f] := nr rfl
@[simp] theorem putNs_cons {f n : Str} {ns : List Str} : putNs f (n :: ns) = if n = f then n :: ns else n :: putNs f ns := nr rfl
@[simp] theorem putFs_nil {f : Str} {d : D} {ds : List D} : putFs f d [] ds = [d] := nr rfl
@[simp] theorem putFs_cons {f n : Str} {d x : D} {ns : List Str} {ds : List D} : putFs f d (n :: ns) (x :: ds) = if n = f then d :: ds else x :: putFs f d ns ds := nr rfl
/-! ### ends -/
@[simp] theorem finX_nx {l : List Bool} : (Out.nx δ).finX l = .ok (.tup (.non :: maskD l δ)) := nr rfl
@[simp] theorem finX_rtx {l : List Bool} {d : D} : (Out.rtx d δ).finX l = .ok (.tup (d :: maskD l δ)) := nr rfl
@[simp] theorem finX_exc {l : List Bool} {c : Str} : (Out.exc c [] δ).finX l = .exc c (maskD l δ) := nr rfl
@[simp] theorem mask_nil : maskD [] δ = [] := nr rfl
@[simp] theorem mask_t {bs : List Bool} : maskD (true :: bs) δ = δ.headD .dead :: maskD bs δ.tail := nr rfl
@[simp] theorem mask_f {bs : List Bool} : maskD (false :: bs) δ = .dead :: maskD bs δ.tail := nr rfl
theorem goX_len2 {d : Df} {l : List Bool} {ds : List D} (h : ds.length = d.ps.length ∧ l.length = ds.length) : goX fn gl ex d l ds = (exec fn gl ex d.b (ds ++ List.replicate (d.N.length - ds.length) .dead)).finX l := if_pos h
/-- a run of a body that changes what it is handed -/
theorem goX_eq {d : Df} {l : List Bool} {ds : List D} {o : Out} {r : Res D} (h : ds.length = d.ps.length ∧ l.length = ds.length) (e : exec fn gl ex d.b (ds ++ List.replicate (d.N.length - ds.length) .dead) = o) (f : o.finX l = r) : goX fn gl ex d l ds = r := by
  rw [goX_len2 h, e, f]
end
/-! ### loops whose slots are told by a state -/
theorem forGo_st {α σ : Type} {bnd : D → List D → Option (List D)} {b : List D → Out} {ec : α → D} (R : σ → List D) (step : σ → α → σ) : ∀ {ys : List α} {s0 : σ}, (∀ s y, y ∈ ys → ∃ δ1, bnd (ec y) (R s) = some δ1 ∧ (b δ1 = .nx (R (step s y)) ∨ b δ1 = .ct (R (step s y)))) → forGo bnd b (ys.map ec) (R s0) = .nx (R (ys.foldl step s0))
  | [], _, _ => rfl
  | y :: ys, s0, h => by
    obtain ⟨δ1, e1, e2⟩ := h s0 y List.mem_cons_self
    rw [List.map_cons]
    unfold forGo
    rw [e1]
    dsimp only
    have ih := forGo_st (bnd := bnd) (b := b) (ec := ec) R step (ys := ys) (s0 := step s0 y) fun s z hz => h s z (List.mem_cons_of_mem _ hz)
    rcases e2 with e2 | e2 <;> (rw [e2]; exact ih)
end PX

namespace LW
open PySem PySem.Spec PX
open L2 hiding prD
def d_advance : Df := ⟨"advance", ["turn"], ["turn"], (.seq (.ife (.cmp .eq (.loc 0) (.str "f")) (.seq (.ret (.int 1)) .skip) .skip) (.seq (.ife (.cmp .eq (.loc 0) (.str "b")) (.seq (.ret (.neg (.int 1))) .skip) .skip) (.seq (.ret (.int 0)) .skip))), .fn⟩
def d_twisting : Df := ⟨"twisting", ["tablet", "turn"], ["tablet", "turn"], (.seq (.ife (.cmp .eq (.ix (.loc 0) (.int 0)) (.str "S")) (.seq (.ret (.call "advance" (.cons (.loc 1) .nil))) .skip) .skip) (.seq (.ret (.bin .sub (.int 0) (.call "advance" (.cons (.loc 1) .nil)))) .skip)), .fn⟩
def d_opposite_turn : Df := ⟨"opposite_turn", ["turn"], ["turn"], (.seq (.ife (.cmp .eq (.loc 0) (.str "f")) (.seq (.ret (.str "b")) .skip) .skip) (.seq (.ife (.cmp .eq (.loc 0) (.str "b")) (.seq (.ret (.str "f")) .skip) .skip) (.seq (.retv 0) .skip))), .fn⟩
def d_opposite_e1 : E := (.call "opposite_turn" (.cons (.loc 1) .nil))
def d_opposite : Df := ⟨"opposite", ["turns"], ["turns", "turn"], (.seq (.ret (.mth .join (.str "") (.lc [1] (.nm 1) (.one (.loc 0)) (.bl true) d_opposite_e1))) .skip), .fn⟩
def d_tally_one : Df := ⟨"tally_one", ["statement"], ["statement"], (.seq (.ife (.cmp .eq (.ix (.loc 0) (.int 0)) (.str "times")) (.seq (.ret (.bin .mul (.ix (.loc 0) (.int 1)) (.call "tally" (.cons (.ix (.loc 0) (.int 2)) .nil)))) .skip) .skip) (.seq (.ife (.cmp .eq (.ix (.loc 0) (.int 0)) (.str "mirror")) (.seq (.ret (.bin .mul (.int 2) (.call "tally" (.cons (.ix (.loc 0) (.int 1)) .nil)))) .skip) .skip) (.seq (.ret (.int 1)) .skip))), .fn⟩
def d_tally_b1 : S := (.seq (.asg 1 (.bin .add (.loc 1) (.call "tally_one" (.cons (.loc 2) .nil)))) (.seq (.kill 2) .skip))
def d_tally : Df := ⟨"tally", ["program"], ["program", "many", "statement"], (.seq (.asg 1 (.int 0)) (.seq (.for_ (.nm 2) (.one (.loc 0)) d_tally_b1) (.seq (.kill 2) (.seq (.retv 1) .skip)))), .fn⟩
def d_fits_b1 : S := (.seq (.ife (.cmp .nin (.loc 2) (.glb "TURNS")) (.seq (.ret (.bl false)) .skip) .skip) (.seq (.kill 2) .skip))
def d_fits : Df := ⟨"fits", ["row", "width"], ["row", "width", "turn"], (.seq (.ife (.cmp .ne (.blt .len (.cons (.loc 0) .nil)) (.loc 1)) (.seq (.ret (.bl false)) .skip) .skip) (.seq (.for_ (.nm 2) (.one (.loc 0)) d_fits_b1) (.seq (.kill 2) (.seq (.ret (.bl true)) .skip)))), .fn⟩
def d_look_through_b1 : S := (.seq (.ife (.and_ (.cmp .eq (.ix (.loc 2) (.int 0)) (.str "row")) (.one (.not_ (.call "fits" (.cons (.ix (.loc 2) (.int 1)) (.cons (.loc 1) .nil)))))) (.seq (.rse "BadRow") .skip) .skip) (.seq (.ife (.cmp .eq (.ix (.loc 2) (.int 0)) (.str "times")) (.seq (.drop (.call "look_through" (.cons (.ix (.loc 2) (.int 2)) (.cons (.loc 1) .nil)))) .skip) .skip) (.seq (.ife (.cmp .eq (.ix (.loc 2) (.int 0)) (.str "mirror")) (.seq (.drop (.call "look_through" (.cons (.ix (.loc 2) (.int 1)) (.cons (.loc 1) .nil)))) .skip) .skip) (.seq (.kill 2) .skip))))
def d_look_through : Df := ⟨"look_through", ["program", "width"], ["program", "width", "statement"], (.seq (.for_ (.nm 2) (.one (.loc 0)) d_look_through_b1) .skip), .fn⟩
def d_opposed_e1 : E := (.call "opposite" (.cons (.loc 1) .nil))
def d_opposed : Df := ⟨"opposed", ["rows"], ["rows", "row"], (.seq (.ret (.lc [1] (.nm 1) (.revd (.loc 0)) (.bl true) d_opposed_e1)) .skip), .fn⟩
def d_rows_by : Df := ⟨"rows_by", ["statement", "width"], ["statement", "width", "rows"], (.seq (.ife (.cmp .eq (.ix (.loc 0) (.int 0)) (.str "row")) (.seq (.ret (.lst (.kcons (.ix (.loc 0) (.int 1)) .knil))) .skip) .skip) (.seq (.ife (.cmp .eq (.ix (.loc 0) (.int 0)) (.str "all")) (.seq (.ret (.lst (.kcons (.bin .mul (.ix (.loc 0) (.int 1)) (.loc 1)) .knil))) .skip) .skip) (.seq (.ife (.cmp .eq (.ix (.loc 0) (.int 0)) (.str "mirror")) (.seq (.asg 2 (.call "spread" (.cons (.ix (.loc 0) (.int 1)) (.cons (.loc 1) .nil)))) (.seq (.frz 2) (.seq (.ret (.bin .add (.loc 2) (.call "opposed" (.cons (.loc 2) .nil)))) .skip))) .skip) (.seq (.ife (.cmp .eq (.ix (.loc 0) (.int 1)) (.int 0)) (.seq (.ret (.lst .knil)) .skip) .skip) (.seq (.ret (.bin .mul (.call "spread" (.cons (.ix (.loc 0) (.int 2)) (.cons (.loc 1) .nil))) (.ix (.loc 0) (.int 1)))) .skip))))), .fn⟩
def d_spread_b1 : S := (.seq (.asg 2 (.bin .add (.loc 2) (.call "rows_by" (.cons (.loc 3) (.cons (.loc 1) .nil))))) (.seq (.frz 2) (.seq (.kill 3) .skip)))
def d_spread : Df := ⟨"spread", ["program", "width"], ["program", "width", "rows", "statement"], (.seq (.asg 2 (.lst .knil)) (.seq (.frz 2) (.seq (.for_ (.nm 3) (.one (.loc 0)) d_spread_b1) (.seq (.kill 3) (.seq (.retv 2) .skip))))), .fn⟩
def d_laid : Df := ⟨"laid", ["program", "width"], ["program", "width"], (.seq (.ife (.cmp .gt (.call "tally" (.cons (.loc 0) .nil)) (.glb "MOST_ROWS")) (.seq (.rse "TooLong") .skip) .skip) (.seq (.drop (.call "look_through" (.cons (.loc 0) (.cons (.loc 1) .nil)))) (.seq (.ret (.call "spread" (.cons (.loc 0) (.cons (.loc 1) .nil)))) .skip))), .fn⟩
def d_twist_of_b1 : S := (.seq (.asg 2 (.bin .add (.loc 2) (.call "twisting" (.cons (.loc 0) (.cons (.loc 3) .nil))))) (.seq (.kill 3) .skip))
def d_twist_of : Df := ⟨"twist_of", ["tablet", "turns"], ["tablet", "turns", "twist", "turn"], (.seq (.asg 2 (.int 0)) (.seq (.for_ (.nm 3) (.one (.loc 1)) d_twist_of_b1) (.seq (.kill 3) (.seq (.retv 2) .skip)))), .fn⟩
def d_peak_of_b1 : S := (.seq (.asg 2 (.bin .add (.loc 2) (.call "twisting" (.cons (.loc 0) (.cons (.loc 4) .nil))))) (.seq (.asg 3 (.blt .max2 (.cons (.loc 3) (.cons (.blt .abs (.cons (.loc 2) .nil)) .nil)))) (.seq (.kill 4) .skip)))
def d_peak_of : Df := ⟨"peak_of", ["tablet", "turns"], ["tablet", "turns", "twist", "peak", "turn"], (.seq (.asg 2 (.int 0)) (.seq (.asg 3 (.int 0)) (.seq (.for_ (.nm 4) (.one (.loc 1)) d_peak_of_b1) (.seq (.kill 2) (.seq (.kill 4) (.seq (.retv 3) .skip)))))), .fn⟩
def d_column_e1 : E := (.ix (.loc 2) (.loc 1))
def d_column : Df := ⟨"column", ["plan", "k"], ["plan", "k", "row"], (.seq (.ret (.mth .join (.str "") (.lc [2] (.nm 2) (.one (.loc 0)) (.bl true) d_column_e1))) .skip), .fn⟩
def d_twists_e1 : E := (.call "twist_of" (.cons (.loc 3) (.cons (.call "column" (.cons (.loc 1) (.cons (.loc 2) .nil))) .nil)))
def d_twists : Df := ⟨"twists", ["draft", "plan"], ["draft", "plan", "k", "tablet"], (.seq (.ret (.lc [2, 3] (.tp [2, 3]) (.enum (.loc 0)) (.bl true) d_twists_e1)) .skip), .fn⟩
def d_peaks_e1 : E := (.call "peak_of" (.cons (.loc 3) (.cons (.call "column" (.cons (.loc 1) (.cons (.loc 2) .nil))) .nil)))
def d_peaks : Df := ⟨"peaks", ["draft", "plan"], ["draft", "plan", "k", "tablet"], (.seq (.ret (.lc [2, 3] (.tp [2, 3]) (.enum (.loc 0)) (.bl true) d_peaks_e1)) .skip), .fn⟩
def d_law_row_b1 : S := (.seq (.asg 5 (.bin .mod (.bin .add (.bin .add (.bin .mul (.loc 5) (.int 48271)) (.int 7919)) (.loc 7)) (.int 2147483647))) (.seq (.ife (.and_ (.loc 4) (.one (.cmp .gt (.loc 3) (.int 0)))) (.seq (.app 6 (.bin .mod (.loc 3) (.loc 2))) (.seq (.asg 3 (.bin .fdiv (.loc 3) (.loc 2))) .skip)) (.seq (.app 6 (.bin .mod (.bin .mod (.bin .mul (.loc 5) (.loc 5)) (.int 1000003)) (.loc 2))) .skip)) (.seq (.kill 7) .skip)))
def d_law_row : Df := ⟨"_law_row", ["_law_cell", "_law_many", "_law_base"], ["_law_cell", "_law_many", "_law_base", "_law_now", "_law_far", "_law_mix", "_law_out", "_law_k"], (.seq (.asg 3 (.blt .abs (.cons (.loc 0) .nil))) (.seq (.asg 4 (.cmp .ge (.loc 3) (.bin .pow (.int 10) (.int 18)))) (.seq (.asg 5 (.bin .mod (.loc 3) (.int 2147483647))) (.seq (.asg 6 (.lst .knil)) (.seq (.for_ (.nm 7) (.rng1 (.loc 1)) d_law_row_b1) (.seq (.kill 3) (.seq (.kill 5) (.seq (.kill 7) (.seq (.retv 6) .skip))))))))), .fn⟩
def d_law_turns_e1 : E := (.ix (.str "fbi") (.loc 2))
def d_law_turns : Df := ⟨"_law_turns", ["_law_cell", "_law_many"], ["_law_cell", "_law_many", "_law_d"], (.seq (.ife (.cmp .eq (.bin .mod (.loc 0) (.int 7)) (.int 3)) (.seq (.ret (.bin .mul (.ix (.str "fbi") (.bin .mod (.bin .fdiv (.loc 0) (.int 7)) (.int 3))) (.loc 1))) .skip) .skip) (.seq (.ret (.mth .join (.str "") (.lc [2] (.nm 2) (.one (.call "_law_row" (.cons (.bin .fdiv (.loc 0) (.int 7)) (.cons (.loc 1) (.cons (.int 3) .nil))))) (.bl true) d_law_turns_e1))) .skip)), .fn⟩
def d_law_sum_b1 : S := (.seq (.ife (.cmp .eq (.ix (.loc 2) (.int 0)) (.str "times")) (.seq (.asg 1 (.bin .add (.loc 1) (.bin .mul (.ix (.loc 2) (.int 1)) (.call "_law_sum" (.cons (.ix (.loc 2) (.int 2)) .nil))))) (.seq (.frz 1) .skip)) (.seq (.ife (.cmp .eq (.ix (.loc 2) (.int 0)) (.str "mirror")) (.seq (.asg 1 (.bin .add (.loc 1) (.bin .mul (.int 2) (.call "_law_sum" (.cons (.ix (.loc 2) (.int 1)) .nil))))) (.seq (.frz 1) .skip)) (.seq (.asg 1 (.bin .add (.loc 1) (.int 1))) (.seq (.frz 1) .skip))) (.seq (.frz 1) .skip))) (.seq (.frz 1) (.seq (.kill 2) .skip)))
def d_law_sum : Df := ⟨"_law_sum", ["_law_program_here"], ["_law_program_here", "_law_many", "_law_one"], (.seq (.asg 1 (.int 0)) (.seq (.frz 1) (.seq (.for_ (.nm 2) (.one (.loc 0)) d_law_sum_b1) (.seq (.kill 2) (.seq (.retv 1) .skip))))), .fn⟩
def d_law_fold : Df := ⟨"!_law_fold", ["_law_stack"], ["_law_stack", "_law_head", "_law_body", "_law_many"], (.seq (.ife (.cmp .gt (.blt .len (.cons (.loc 0) .nil)) (.int 1)) (.seq (.xasgt [1, 2] (.mut 0 [] .pop .knil)) (.seq (.frz 1) (.seq (.frz 2) (.seq (.asg 3 (.ix (.loc 1) (.int 1))) (.seq (.frz 3) (.seq (.ife (.cmp .eq (.call "_law_sum" (.cons (.loc 2) .nil)) (.int 0)) (.seq (.asg 3 (.bin .mod (.loc 3) (.int 4))) (.seq (.frz 3) .skip)) .skip) (.seq (.frz 3) (.seq (.ife (.and_ (.cmp .eq (.loc 3) (.int 0)) (.one (.cmp .gt (.call "_law_sum" (.cons (.loc 2) .nil)) (.int 3000)))) (.seq (.asg 3 (.int 1)) (.seq (.frz 3) .skip)) .skip) (.seq (.frz 3) (.seq (.ife (.cmp .eq (.ix (.loc 1) (.int 0)) (.str "times")) (.seq (.xdrop (.mut 0 [(.neg (.int 1)), (.int 1)] .app (.kcons (.tup (.kcons (.str "times") (.kcons (.loc 3) (.kcons (.loc 2) .knil)))) .knil))) .skip) (.seq (.xdrop (.mut 0 [(.neg (.int 1)), (.int 1)] .app (.kcons (.tup (.kcons (.str "mirror") (.kcons (.loc 2) .knil))) .knil))) .skip)) .skip)))))))))) .skip) .skip), .io Str.empty "_law_fold" [true]⟩
def d_law_program_b1 : S := (.seq (.ife (.cmp .lt (.bin .mod (.loc 4) (.int 6)) (.int 2)) (.seq (.xdrop (.mut 3 [(.neg (.int 1)), (.int 1)] .app (.kcons (.tup (.kcons (.str "row") (.kcons (.call "_law_turns" (.cons (.bin .fdiv (.loc 4) (.int 6)) (.cons (.loc 1) .nil))) .knil))) .knil))) .skip) (.seq (.ife (.cmp .eq (.bin .mod (.loc 4) (.int 6)) (.int 2)) (.seq (.xdrop (.mut 3 [(.neg (.int 1)), (.int 1)] .app (.kcons (.tup (.kcons (.str "all") (.kcons (.ix (.str "fbi") (.bin .mod (.bin .fdiv (.loc 4) (.int 6)) (.int 3))) .knil))) .knil))) .skip) (.seq (.ife (.or_ (.cmp .eq (.bin .mod (.loc 4) (.int 6)) (.int 5)) (.one (.cmp .eq (.blt .len (.cons (.loc 3) .nil)) (.loc 2)))) (.seq (.xdrop (.xc "_law_fold" [.io 3 []])) .skip) (.seq (.ife (.cmp .eq (.bin .mod (.loc 4) (.int 6)) (.int 3)) (.seq (.asg 5 (.bin .mod (.bin .fdiv (.loc 4) (.int 6)) (.int 4))) (.seq (.ife (.cmp .eq (.bin .mod (.bin .fdiv (.loc 4) (.int 24)) (.int 5)) (.int 1)) (.seq (.asg 5 (.bin .mod (.bin .fdiv (.loc 4) (.int 120)) (.int 100))) .skip) .skip) (.seq (.app 3 (.tup (.kcons (.tup (.kcons (.str "times") (.kcons (.loc 5) .knil))) (.kcons (.lst .knil) .knil)))) .skip))) (.seq (.app 3 (.tup (.kcons (.tup (.kcons (.str "mirror") (.kcons (.int 0) .knil))) (.kcons (.lst .knil) .knil)))) .skip)) .skip)) .skip)) .skip)) (.seq (.kill 4) (.seq (.kill 5) .skip)))
def d_law_program_w1 : E := (.cmp .gt (.blt .len (.cons (.loc 3) .nil)) (.int 1))
def d_law_program_b2 : S := (.seq (.xdrop (.xc "_law_fold" [.io 3 []])) .skip)
def d_law_program : Df := ⟨"_law_program", ["_law_draws_here", "_law_width", "_law_most"], ["_law_draws_here", "_law_width", "_law_most", "_law_stack", "_law_d", "_law_many"], (.seq (.asg 3 (.lst (.kcons (.tup (.kcons (.tup (.kcons (.str "top") (.kcons (.int 0) .knil))) (.kcons (.lst .knil) .knil))) .knil))) (.seq (.for_ (.nm 4) (.one (.loc 0)) d_law_program_b1) (.seq (.kill 4) (.seq (.kill 5) (.seq (.wh 100000 d_law_program_w1 d_law_program_b2) (.seq (.frz 3) (.seq (.ret (.ix (.ix (.loc 3) (.int 0)) (.int 1))) .skip))))))), .fn⟩
def d_law_at : Df := ⟨"_law_at", ["_law_script", "_law_k"], ["_law_script", "_law_k"], (.seq (.ife (.cmp .lt (.loc 1) (.blt .len (.cons (.loc 0) .nil))) (.seq (.ret (.ix (.loc 0) (.loc 1))) .skip) .skip) (.seq (.ret (.bin .mod (.bin .mul (.bin .add (.bin .mul (.loc 1) (.int 48271)) (.int 11)) (.bin .add (.blt .len (.cons (.loc 0) .nil)) (.int 7))) (.int 1000003))) .skip)), .fn⟩
def d_law_draws_e1 : E := (.call "_law_at" (.cons (.loc 0) (.cons (.bin .add (.bin .add (.loc 1) (.int 1)) (.loc 3)) .nil)))
def d_law_draws : Df := ⟨"_law_draws", ["_law_script", "_law_at_here"], ["_law_script", "_law_at_here", "_law_many", "_law_k"], (.seq (.asg 2 (.bin .mod (.call "_law_at" (.cons (.loc 0) (.cons (.loc 1) .nil))) (.int 16))) (.seq (.frz 2) (.seq (.ife (.cmp .eq (.bin .mod (.bin .fdiv (.call "_law_at" (.cons (.loc 0) (.cons (.loc 1) .nil))) (.int 16)) (.int 6)) (.int 1)) (.seq (.asg 2 (.bin .add (.int 40) (.bin .mod (.bin .fdiv (.call "_law_at" (.cons (.loc 0) (.cons (.loc 1) .nil))) (.int 96)) (.int 20)))) (.seq (.frz 2) .skip)) .skip) (.seq (.frz 2) (.seq (.ret (.lc [3] (.nm 3) (.rng1 (.loc 2)) (.bl true) d_law_draws_e1)) .skip))))), .fn⟩
def d_law_back_e1 : E := (.ix (.str "fib") (.mth .index (.str "bif") (.loc 1)))
def d_law_back : Df := ⟨"_law_back", ["_law_turns_here"], ["_law_turns_here", "_law_turn"], (.seq (.ret (.mth .join (.str "") (.lc [1] (.nm 1) (.one (.loc 0)) (.bl true) d_law_back_e1))) .skip), .fn⟩
def d_law_lay_e1 : E := (.call "_law_back" (.cons (.loc 5) .nil))
def d_law_lay_b1 : S := (.seq (.ife (.cmp .eq (.ix (.loc 3) (.int 0)) (.str "times")) (.seq (.ife (.cmp .gt (.ix (.loc 3) (.int 1)) (.int 0)) (.seq (.asg 2 (.bin .add (.loc 2) (.bin .mul (.call "_law_lay" (.cons (.ix (.loc 3) (.int 2)) (.cons (.loc 1) .nil))) (.ix (.loc 3) (.int 1))))) .skip) .skip) .skip) (.seq (.ife (.cmp .eq (.ix (.loc 3) (.int 0)) (.str "mirror")) (.seq (.asg 4 (.call "_law_lay" (.cons (.ix (.loc 3) (.int 1)) (.cons (.loc 1) .nil)))) (.seq (.frz 4) (.seq (.asg 2 (.bin .add (.bin .add (.loc 2) (.loc 4)) (.lc [5] (.nm 5) (.one (.rv (.loc 4))) (.bl true) d_law_lay_e1))) .skip))) (.seq (.ife (.cmp .eq (.ix (.loc 3) (.int 0)) (.str "all")) (.seq (.app 2 (.bin .mul (.ix (.loc 3) (.int 1)) (.loc 1))) .skip) (.seq (.app 2 (.ix (.loc 3) (.int 1))) .skip)) .skip)) (.seq (.frz 4) .skip))) (.seq (.frz 4) (.seq (.kill 3) (.seq (.kill 4) .skip))))
def d_law_lay : Df := ⟨"_law_lay", ["_law_program_here", "_law_width"], ["_law_program_here", "_law_width", "_law_out", "_law_one", "_law_rows", "_law_row_here"], (.seq (.asg 2 (.lst .knil)) (.seq (.for_ (.nm 3) (.one (.loc 0)) d_law_lay_b1) (.seq (.kill 3) (.seq (.kill 4) (.seq (.retv 2) .skip))))), .fn⟩
def d_law_holes_b1 : S := (.seq (.asg 3 (.bin .add (.loc 3) (.ix (.str "abcdefghijklmnopqrstuvwxyz") (.bin .mod (.bin .add (.ix (.loc 2) (.int 4)) (.bin .mul (.bin .mod (.loc 4) (.loc 1)) (.int 7))) (.int 26))))) (.seq (.kill 4) .skip))
def d_law_holes : Df := ⟨"_law_holes", ["_law_cell"], ["_law_cell", "_law_size", "_law_draws_here", "_law_out", "_law_d"], (.seq (.asg 1 (.ix (.lst (.kcons (.int 1) (.kcons (.int 2) (.kcons (.int 3) (.kcons (.int 4) (.kcons (.int 26) .knil)))))) (.bin .mod (.loc 0) (.int 5)))) (.seq (.frz 1) (.seq (.asg 2 (.call "_law_row" (.cons (.bin .fdiv (.loc 0) (.int 5)) (.cons (.int 5) (.cons (.int 26) .nil))))) (.seq (.frz 2) (.seq (.asg 3 (.str "")) (.seq (.for_ (.nm 4) (.one (.sl (.loc 2) .non (.one (.int 4)))) d_law_holes_b1) (.seq (.kill 4) (.seq (.retv 3) .skip)))))))), .fn⟩
def d_law_card : Df := ⟨"_law_card", ["_law_cell"], ["_law_cell"], (.seq (.ret (.tup (.kcons (.ix (.str "SZ") (.bin .mod (.loc 0) (.int 2))) (.kcons (.call "_law_holes" (.cons (.bin .fdiv (.loc 0) (.int 8)) .nil)) (.kcons (.bin .mod (.bin .fdiv (.loc 0) (.int 2)) (.int 4)) .knil))))) .skip), .fn⟩
def d_law_draft_e1 : E := (.call "_law_card" (.cons (.call "_law_at" (.cons (.loc 0) (.cons (.bin .add (.loc 1) (.loc 3)) .nil))) .nil))
def d_law_draft : Df := ⟨"_law_draft", ["_law_script", "_law_at_here", "_law_width"], ["_law_script", "_law_at_here", "_law_width", "_law_k"], (.seq (.ret (.lc [3] (.nm 3) (.rng1 (.loc 2)) (.bl true) d_law_draft_e1)) .skip), .fn⟩
def d_law_same_b1 : S := (.seq (.ife (.not_ (.call "_law_same" (.cons (.loc 2) (.cons (.loc 3) .nil)))) (.seq (.ret (.bl false)) .skip) .skip) (.seq (.kill 2) (.seq (.kill 3) .skip)))
def d_law_same : Df := ⟨"_law_same", ["_law_found", "_law_due"], ["_law_found", "_law_due", "_law_one", "_law_other"], (.seq (.ife (.or_ (.cmp .is_ (.loc 1) .non) (.or_ (.cmp .is_ (.loc 1) (.bl true)) (.one (.cmp .is_ (.loc 1) (.bl false))))) (.seq (.ret (.and_ (.cmp .eq (.isi (.loc 0) "bool") (.isi (.loc 1) "bool")) (.one (.cmp .eq (.loc 0) (.loc 1))))) .skip) .skip) (.seq (.ife (.isi (.loc 1) "int") (.seq (.ret (.and_ (.isi (.loc 0) "int") (.and_ (.not_ (.isi (.loc 0) "bool")) (.one (.cmp .eq (.loc 0) (.loc 1)))))) .skip) .skip) (.seq (.ife (.isi (.loc 1) "str") (.seq (.ret (.and_ (.isi (.loc 0) "str") (.one (.cmp .eq (.loc 0) (.loc 1))))) .skip) .skip) (.seq (.ife (.and_ (.isi (.loc 1) "list") (.one (.not_ (.isi (.loc 0) "list")))) (.seq (.ret (.bl false)) .skip) .skip) (.seq (.ife (.and_ (.isi (.loc 1) "tuple") (.one (.not_ (.isi (.loc 0) "tuple")))) (.seq (.ret (.bl false)) .skip) .skip) (.seq (.ife (.cmp .ne (.blt .len (.cons (.loc 0) .nil)) (.blt .len (.cons (.loc 1) .nil))) (.seq (.ret (.bl false)) .skip) .skip) (.seq (.for_ (.tp [2, 3]) (.zip2 (.loc 0) (.loc 1)) d_law_same_b1) (.seq (.kill 2) (.seq (.kill 3) (.seq (.ret (.bl true)) .skip)))))))))), .fn⟩
def d_law_tried : Df := ⟨"_law_tried", ["_law_program_here", "_law_width"], ["_law_program_here", "_law_width"], (.seq (.tryN (.seq (.ret (.call "laid" (.cons (.loc 0) (.cons (.loc 1) .nil)))) .skip) "TooLong") .skip), .fn⟩
def d_law_e1 : E := (.int 0)
def d_law : Df := ⟨"law", ["_law_script"], ["_law_script", "_law_width", "_law_program_here", "_law_draft_here", "_law_mirror", "_law_deep", "_law_twice", "_law_rows", "_law_due", "_law_card_here"], (.seq (.asg 1 (.bin .add (.int 1) (.bin .mod (.call "_law_at" (.cons (.loc 0) (.cons (.int 0) .nil))) (.int 8)))) (.seq (.frz 1) (.seq (.asg 2 (.call "_law_program" (.cons (.fz (.call "_law_draws" (.cons (.loc 0) (.cons (.int 9) .nil)))) (.cons (.loc 1) (.cons (.int 6) .nil))))) (.seq (.frz 2) (.seq (.asg 3 (.call "_law_draft" (.cons (.loc 0) (.cons (.int 1) (.cons (.loc 1) .nil))))) (.seq (.frz 3) (.seq (.asg 4 (.lst (.kcons (.tup (.kcons (.str "mirror") (.kcons (.loc 2) .knil))) .knil))) (.seq (.frz 4) (.seq (.asg 5 (.lst (.kcons (.tup (.kcons (.str "mirror") (.kcons (.blt .list (.cons (.loc 4) .nil)) .knil))) .knil))) (.seq (.frz 5) (.seq (.asg 6 (.lst (.kcons (.tup (.kcons (.str "times") (.kcons (.int 2) (.kcons (.blt .list (.cons (.loc 4) .nil)) .knil)))) .knil))) (.seq (.frz 6) (.seq (.ife (.cmp .gt (.bin .mul (.int 4) (.call "_law_sum" (.cons (.loc 2) .nil))) (.int 240)) (.seq (.ret (.and_ (.call "_law_same" (.cons (.call "_law_tried" (.cons (.loc 5) (.cons (.loc 1) .nil))) (.cons .non .nil))) (.one (.call "_law_same" (.cons (.call "_law_tried" (.cons (.loc 6) (.cons (.loc 1) .nil))) (.cons .non .nil)))))) .skip) .skip) (.seq (.asg 7 (.call "_law_tried" (.cons (.loc 4) (.cons (.loc 1) .nil)))) (.seq (.frz 7) (.seq (.asg 8 (.call "_law_lay" (.cons (.loc 2) (.cons (.loc 1) .nil)))) (.seq (.frz 8) (.seq (.ife (.or_ (.not_ (.isi (.loc 7) "list")) (.or_ (.cmp .ne (.blt .len (.cons (.loc 7) .nil)) (.bin .mul (.int 2) (.blt .len (.cons (.loc 8) .nil)))) (.one (.not_ (.call "_law_same" (.cons (.sl (.loc 7) .non (.one (.blt .len (.cons (.loc 8) .nil)))) (.cons (.loc 8) .nil))))))) (.seq (.ret (.bl false)) .skip) .skip) (.seq (.ife (.not_ (.call "_law_same" (.cons (.call "tally" (.cons (.loc 4) .nil)) (.cons (.blt .len (.cons (.loc 7) .nil)) .nil)))) (.seq (.ret (.bl false)) .skip) .skip) (.seq (.ife (.not_ (.call "_law_same" (.cons (.call "twists" (.cons (.loc 3) (.cons (.loc 7) .nil))) (.cons (.lc [9] (.nm 9) (.one (.loc 3)) (.bl true) d_law_e1) .nil)))) (.seq (.ret (.bl false)) .skip) .skip) (.seq (.ife (.not_ (.call "_law_same" (.cons (.call "peaks" (.cons (.loc 3) (.cons (.loc 7) .nil))) (.cons (.call "peaks" (.cons (.loc 3) (.cons (.loc 8) .nil))) .nil)))) (.seq (.ret (.bl false)) .skip) .skip) (.seq (.ret (.and_ (.call "_law_same" (.cons (.call "_law_tried" (.cons (.loc 5) (.cons (.loc 1) .nil))) (.cons (.bin .add (.loc 7) (.loc 7)) .nil))) (.one (.call "_law_same" (.cons (.call "_law_tried" (.cons (.loc 6) (.cons (.loc 1) .nil))) (.cons (.bin .add (.loc 7) (.loc 7)) .nil)))))) .skip)))))))))))))))))))))), .fn⟩
def tx : Tx := ⟨[(6, d_advance),
  (7, d_twisting),
  (8, d_opposite_turn),
  (9, d_opposite),
  (12, d_tally_one),
  (13, d_tally),
  (14, d_fits),
  (15, d_look_through),
  (16, d_opposed),
  (17, d_rows_by),
  (18, d_spread),
  (19, d_laid),
  (21, d_twist_of),
  (22, d_peak_of),
  (23, d_column),
  (24, d_twists),
  (25, d_peaks),
  (27, d_law_row),
  (28, d_law_turns),
  (29, d_law_sum),
  (30, d_law_fold),
  (31, d_law_program),
  (32, d_law_at),
  (33, d_law_draws),
  (34, d_law_back),
  (35, d_law_lay),
  (36, d_law_holes),
  (37, d_law_card),
  (38, d_law_draft),
  (39, d_law_same),
  (40, d_law_tried),
  (41, d_law)],
  ["BadRow", "TooLong"], [("MOST_ROWS", (.int 240)), ("TURNS", (.ctup ["f", "b", "i"]))], ["TooLong"], false, []⟩
@[simp] theorem tx_rs_BadRow : ("BadRow" : Str) ∈ tx.ex.rs := by decide +kernel
@[simp] theorem tx_rs_TooLong : ("TooLong" : Str) ∈ tx.ex.rs := by decide +kernel
@[simp] theorem tx_es_TooLong : ("TooLong" : Str) ∈ tx.ex.es := by decide +kernel
theorem f_advance : findD tx.T "advance" = some d_advance := by kernel_rfl
@[simp] theorem run_advance {n : Nat} : tx.run (n + 1) "advance" = some (goD (tx.run n) tx.gl tx.ex d_advance) := Tx.run_of f_advance rfl
theorem f_twisting : findD tx.T "twisting" = some d_twisting := by kernel_rfl
@[simp] theorem run_twisting {n : Nat} : tx.run (n + 1) "twisting" = some (goD (tx.run n) tx.gl tx.ex d_twisting) := Tx.run_of f_twisting rfl
theorem f_opposite_turn : findD tx.T "opposite_turn" = some d_opposite_turn := by kernel_rfl
@[simp] theorem run_opposite_turn {n : Nat} : tx.run (n + 1) "opposite_turn" = some (goD (tx.run n) tx.gl tx.ex d_opposite_turn) := Tx.run_of f_opposite_turn rfl
theorem f_opposite : findD tx.T "opposite" = some d_opposite := by kernel_rfl
@[simp] theorem run_opposite {n : Nat} : tx.run (n + 1) "opposite" = some (goD (tx.run n) tx.gl tx.ex d_opposite) := Tx.run_of f_opposite rfl
theorem f_tally_one : findD tx.T "tally_one" = some d_tally_one := by kernel_rfl
@[simp] theorem run_tally_one {n : Nat} : tx.run (n + 1) "tally_one" = some (goD (tx.run n) tx.gl tx.ex d_tally_one) := Tx.run_of f_tally_one rfl
theorem f_tally : findD tx.T "tally" = some d_tally := by kernel_rfl
@[simp] theorem run_tally {n : Nat} : tx.run (n + 1) "tally" = some (goD (tx.run n) tx.gl tx.ex d_tally) := Tx.run_of f_tally rfl
theorem f_fits : findD tx.T "fits" = some d_fits := by kernel_rfl
@[simp] theorem run_fits {n : Nat} : tx.run (n + 1) "fits" = some (goD (tx.run n) tx.gl tx.ex d_fits) := Tx.run_of f_fits rfl
theorem f_look_through : findD tx.T "look_through" = some d_look_through := by kernel_rfl
@[simp] theorem run_look_through {n : Nat} : tx.run (n + 1) "look_through" = some (goD (tx.run n) tx.gl tx.ex d_look_through) := Tx.run_of f_look_through rfl
theorem f_opposed : findD tx.T "opposed" = some d_opposed := by kernel_rfl
@[simp] theorem run_opposed {n : Nat} : tx.run (n + 1) "opposed" = some (goD (tx.run n) tx.gl tx.ex d_opposed) := Tx.run_of f_opposed rfl
theorem f_rows_by : findD tx.T "rows_by" = some d_rows_by := by kernel_rfl
@[simp] theorem run_rows_by {n : Nat} : tx.run (n + 1) "rows_by" = some (goD (tx.run n) tx.gl tx.ex d_rows_by) := Tx.run_of f_rows_by rfl
theorem f_spread : findD tx.T "spread" = some d_spread := by kernel_rfl
@[simp] theorem run_spread {n : Nat} : tx.run (n + 1) "spread" = some (goD (tx.run n) tx.gl tx.ex d_spread) := Tx.run_of f_spread rfl
theorem f_laid : findD tx.T "laid" = some d_laid := by kernel_rfl
@[simp] theorem run_laid {n : Nat} : tx.run (n + 1) "laid" = some (goD (tx.run n) tx.gl tx.ex d_laid) := Tx.run_of f_laid rfl
theorem f_twist_of : findD tx.T "twist_of" = some d_twist_of := by kernel_rfl
@[simp] theorem run_twist_of {n : Nat} : tx.run (n + 1) "twist_of" = some (goD (tx.run n) tx.gl tx.ex d_twist_of) := Tx.run_of f_twist_of rfl
theorem f_peak_of : findD tx.T "peak_of" = some d_peak_of := by kernel_rfl
@[simp] theorem run_peak_of {n : Nat} : tx.run (n + 1) "peak_of" = some (goD (tx.run n) tx.gl tx.ex d_peak_of) := Tx.run_of f_peak_of rfl
theorem f_column : findD tx.T "column" = some d_column := by kernel_rfl
@[simp] theorem run_column {n : Nat} : tx.run (n + 1) "column" = some (goD (tx.run n) tx.gl tx.ex d_column) := Tx.run_of f_column rfl
theorem f_twists : findD tx.T "twists" = some d_twists := by kernel_rfl
@[simp] theorem run_twists {n : Nat} : tx.run (n + 1) "twists" = some (goD (tx.run n) tx.gl tx.ex d_twists) := Tx.run_of f_twists rfl
theorem f_peaks : findD tx.T "peaks" = some d_peaks := by kernel_rfl
@[simp] theorem run_peaks {n : Nat} : tx.run (n + 1) "peaks" = some (goD (tx.run n) tx.gl tx.ex d_peaks) := Tx.run_of f_peaks rfl
theorem f_law_row : findD tx.T "_law_row" = some d_law_row := by kernel_rfl
@[simp] theorem run_law_row {n : Nat} : tx.run (n + 1) "_law_row" = some (goD (tx.run n) tx.gl tx.ex d_law_row) := Tx.run_of f_law_row rfl
theorem f_law_turns : findD tx.T "_law_turns" = some d_law_turns := by kernel_rfl
@[simp] theorem run_law_turns {n : Nat} : tx.run (n + 1) "_law_turns" = some (goD (tx.run n) tx.gl tx.ex d_law_turns) := Tx.run_of f_law_turns rfl
theorem f_law_sum : findD tx.T "_law_sum" = some d_law_sum := by kernel_rfl
@[simp] theorem run_law_sum {n : Nat} : tx.run (n + 1) "_law_sum" = some (goD (tx.run n) tx.gl tx.ex d_law_sum) := Tx.run_of f_law_sum rfl
theorem f_law_fold : findD tx.T (keyX Str.empty "_law_fold") = some d_law_fold := by kernel_rfl
@[simp] theorem run_law_fold {n : Nat} : tx.run (n + 1) (keyX Str.empty "_law_fold") = some (goX (tx.run n) tx.gl tx.ex d_law_fold [true]) := Tx.run_ofX f_law_fold rfl (by decide +kernel)
theorem f_law_program : findD tx.T "_law_program" = some d_law_program := by kernel_rfl
@[simp] theorem run_law_program {n : Nat} : tx.run (n + 1) "_law_program" = some (goD (tx.run n) tx.gl tx.ex d_law_program) := Tx.run_of f_law_program rfl
theorem f_law_at : findD tx.T "_law_at" = some d_law_at := by kernel_rfl
@[simp] theorem run_law_at {n : Nat} : tx.run (n + 1) "_law_at" = some (goD (tx.run n) tx.gl tx.ex d_law_at) := Tx.run_of f_law_at rfl
theorem f_law_draws : findD tx.T "_law_draws" = some d_law_draws := by kernel_rfl
@[simp] theorem run_law_draws {n : Nat} : tx.run (n + 1) "_law_draws" = some (goD (tx.run n) tx.gl tx.ex d_law_draws) := Tx.run_of f_law_draws rfl
theorem f_law_back : findD tx.T "_law_back" = some d_law_back := by kernel_rfl
@[simp] theorem run_law_back {n : Nat} : tx.run (n + 1) "_law_back" = some (goD (tx.run n) tx.gl tx.ex d_law_back) := Tx.run_of f_law_back rfl
theorem f_law_lay : findD tx.T "_law_lay" = some d_law_lay := by kernel_rfl
@[simp] theorem run_law_lay {n : Nat} : tx.run (n + 1) "_law_lay" = some (goD (tx.run n) tx.gl tx.ex d_law_lay) := Tx.run_of f_law_lay rfl
theorem f_law_holes : findD tx.T "_law_holes" = some d_law_holes := by kernel_rfl
@[simp] theorem run_law_holes {n : Nat} : tx.run (n + 1) "_law_holes" = some (goD (tx.run n) tx.gl tx.ex d_law_holes) := Tx.run_of f_law_holes rfl
theorem f_law_card : findD tx.T "_law_card" = some d_law_card := by kernel_rfl
@[simp] theorem run_law_card {n : Nat} : tx.run (n + 1) "_law_card" = some (goD (tx.run n) tx.gl tx.ex d_law_card) := Tx.run_of f_law_card rfl
theorem f_law_draft : findD tx.T "_law_draft" = some d_law_draft := by kernel_rfl
@[simp] theorem run_law_draft {n : Nat} : tx.run (n + 1) "_law_draft" = some (goD (tx.run n) tx.gl tx.ex d_law_draft) := Tx.run_of f_law_draft rfl
theorem f_law_same : findD tx.T "_law_same" = some d_law_same := by kernel_rfl
@[simp] theorem run_law_same {n : Nat} : tx.run (n + 1) "_law_same" = some (goD (tx.run n) tx.gl tx.ex d_law_same) := Tx.run_of f_law_same rfl
theorem f_law_tried : findD tx.T "_law_tried" = some d_law_tried := by kernel_rfl
@[simp] theorem run_law_tried {n : Nat} : tx.run (n + 1) "_law_tried" = some (goD (tx.run n) tx.gl tx.ex d_law_tried) := Tx.run_of f_law_tried rfl
theorem f_law : findD tx.T "law" = some d_law := by kernel_rfl
@[simp] theorem run_law {n : Nat} : tx.run (n + 1) "law" = some (goD (tx.run n) tx.gl tx.ex d_law) := Tx.run_of f_law rfl
@[simp] theorem gl_MOST_ROWS : tx.gl "MOST_ROWS" = some (.int 240) := by kernel_rfl
@[simp] theorem gl_TURNS : tx.gl "TURNS" = some (.ctup ["f", "b", "i"]) := by kernel_rfl

abbrev R : PySem.W.OpenRow := PySem.W.OpenLaw.row PySem.Challenge.rw_wornband_k14_whole_mirrors
abbrev pr : Program := PySem.Challenge.pw_wornband_k14_whole_mirrors
def loose : List Str := [("BandError" : Str), ("BadRow" : Str), ("TooLong" : Str), ("TURNS" : Str), ("advance" : Str), ("twisting" : Str), ("opposite_turn" : Str), ("opposite" : Str), ("MOST_ROWS" : Str), ("tally_one" : Str), ("tally" : Str), ("fits" : Str), ("look_through" : Str), ("opposed" : Str), ("rows_by" : Str), ("spread" : Str), ("laid" : Str), ("twist_of" : Str), ("peak_of" : Str), ("column" : Str), ("twists" : Str), ("peaks" : Str), ("_law_row" : Str), ("_law_turns" : Str), ("_law_sum" : Str), ("_law_fold" : Str), ("_law_program" : Str), ("_law_at" : Str), ("_law_draws" : Str), ("_law_back" : Str), ("_law_lay" : Str), ("_law_holes" : Str), ("_law_card" : Str), ("_law_draft" : Str), ("_law_same" : Str), ("_law_tried" : Str)]
theorem okB : tx.okB pr = true := by decide +kernel
theorem run (w : World) : HandSHeadRun.RunEq R (PySem.W.view R.prog [41]) (tx.hk pr 4) (tx.ob pr 4) 3000 loose w := by
  intro os
  kernel_rfl
theorem binds : ∀ q ∈ tx.L, BindOk (topSt pr q.1) q.2 :=
  (List.forall_mem_cons.mpr ⟨fun _ _ _ _ _ _ us hl => match us, hl with | [_], _ => rfl,
  (List.forall_mem_cons.mpr ⟨fun _ _ _ _ _ _ us hl => match us, hl with | [_, _], _ => rfl,
  (List.forall_mem_cons.mpr ⟨fun _ _ _ _ _ _ us hl => match us, hl with | [_], _ => rfl,
  (List.forall_mem_cons.mpr ⟨fun _ _ _ _ _ _ us hl => match us, hl with | [_], _ => rfl,
  (List.forall_mem_cons.mpr ⟨fun _ _ _ _ _ _ us hl => match us, hl with | [_], _ => rfl,
  (List.forall_mem_cons.mpr ⟨fun _ _ _ _ _ _ us hl => match us, hl with | [_], _ => rfl,
  (List.forall_mem_cons.mpr ⟨fun _ _ _ _ _ _ us hl => match us, hl with | [_, _], _ => rfl,
  (List.forall_mem_cons.mpr ⟨fun _ _ _ _ _ _ us hl => match us, hl with | [_, _], _ => rfl,
  (List.forall_mem_cons.mpr ⟨fun _ _ _ _ _ _ us hl => match us, hl with | [_], _ => rfl,
  (List.forall_mem_cons.mpr ⟨fun _ _ _ _ _ _ us hl => match us, hl with | [_, _], _ => rfl,
  (List.forall_mem_cons.mpr ⟨fun _ _ _ _ _ _ us hl => match us, hl with | [_, _], _ => rfl,
  (List.forall_mem_cons.mpr ⟨fun _ _ _ _ _ _ us hl => match us, hl with | [_, _], _ => rfl,
  (List.forall_mem_cons.mpr ⟨fun _ _ _ _ _ _ us hl => match us, hl with | [_, _], _ => rfl,
  (List.forall_mem_cons.mpr ⟨fun _ _ _ _ _ _ us hl => match us, hl with | [_, _], _ => rfl,
  (List.forall_mem_cons.mpr ⟨fun _ _ _ _ _ _ us hl => match us, hl with | [_, _], _ => rfl,
  (List.forall_mem_cons.mpr ⟨fun _ _ _ _ _ _ us hl => match us, hl with | [_, _], _ => rfl,
  (List.forall_mem_cons.mpr ⟨fun _ _ _ _ _ _ us hl => match us, hl with | [_, _], _ => rfl,
  (List.forall_mem_cons.mpr ⟨fun _ _ _ _ _ _ us hl => match us, hl with | [_, _, _], _ => rfl,
  (List.forall_mem_cons.mpr ⟨fun _ _ _ _ _ _ us hl => match us, hl with | [_, _], _ => rfl,
  (List.forall_mem_cons.mpr ⟨fun _ _ _ _ _ _ us hl => match us, hl with | [_], _ => rfl,
  (List.forall_mem_cons.mpr ⟨fun _ _ _ _ _ _ us hl => match us, hl with | [_], _ => rfl,
  (List.forall_mem_cons.mpr ⟨fun _ _ _ _ _ _ us hl => match us, hl with | [_, _, _], _ => rfl,
  (List.forall_mem_cons.mpr ⟨fun _ _ _ _ _ _ us hl => match us, hl with | [_, _], _ => rfl,
  (List.forall_mem_cons.mpr ⟨fun _ _ _ _ _ _ us hl => match us, hl with | [_, _], _ => rfl,
  (List.forall_mem_cons.mpr ⟨fun _ _ _ _ _ _ us hl => match us, hl with | [_], _ => rfl,
  (List.forall_mem_cons.mpr ⟨fun _ _ _ _ _ _ us hl => match us, hl with | [_, _], _ => rfl,
  (List.forall_mem_cons.mpr ⟨fun _ _ _ _ _ _ us hl => match us, hl with | [_], _ => rfl,
  (List.forall_mem_cons.mpr ⟨fun _ _ _ _ _ _ us hl => match us, hl with | [_], _ => rfl,
  (List.forall_mem_cons.mpr ⟨fun _ _ _ _ _ _ us hl => match us, hl with | [_, _, _], _ => rfl,
  (List.forall_mem_cons.mpr ⟨fun _ _ _ _ _ _ us hl => match us, hl with | [_, _], _ => rfl,
  (List.forall_mem_cons.mpr ⟨fun _ _ _ _ _ _ us hl => match us, hl with | [_, _], _ => rfl,
  (List.forall_mem_cons.mpr ⟨fun _ _ _ _ _ _ us hl => match us, hl with | [_], _ => rfl,
  (fun _ h => nomatch h)⟩)⟩)⟩)⟩)⟩)⟩)⟩)⟩)⟩)⟩)⟩)⟩)⟩)⟩)⟩)⟩)⟩)⟩)⟩)⟩)⟩)⟩)⟩)⟩)⟩)⟩)⟩)⟩)⟩)⟩)⟩)⟩)
/-- a statement of a program of turnings -/
inductive St where
  | row (t : List Nat) | all (x : Nat) | times (n : Int) (b : List St) | mirror (b : List St)
mutual
def St.d (o : Bool) : St → D
  | .row t => .tup [.str "row", txD t]
  | .all x => .tup [.str "all", letD x]
  | .times n b => .tup [.str "times", .int n, .box o .lst (St.ds o b)]
  | .mirror b => .tup [.str "mirror", .box o .lst (St.ds o b)]
def St.ds (o : Bool) : List St → List D
  | [] => []
  | s :: r => s.d o :: St.ds o r
end
mutual
def St.dep : St → Nat
  | .row _ => 0
  | .all _ => 0
  | .times _ b => St.deps b + 1
  | .mirror b => St.deps b + 1
def St.deps : List St → Nat
  | [] => 0
  | s :: r => max s.dep (St.deps r)
end
mutual
/-- lists of B items at most, numbers from 0 to 99, texts that R holds of -/
def St.ok (B : Nat) (R : List Nat → Bool) : St → Bool
  | .row t => R (0 :: t)
  | .all x => R [1, x]
  | .times n b => decide (0 ≤ n ∧ n ≤ 99) && (decide (b.length ≤ B) && St.oks B R b)
  | .mirror b => decide (b.length ≤ B) && St.oks B R b
def St.oks (B : Nat) (R : List Nat → Bool) : List St → Bool
  | [] => true
  | s :: r => s.ok B R && St.oks B R r
end
mutual
def St.tal : St → Int
  | .row _ => 1
  | .all _ => 1
  | .times n b => n * St.tals b
  | .mirror b => 2 * St.tals b
def St.tals : List St → Int
  | [] => 0
  | s :: r => s.tal + St.tals r
end
theorem St.ds_map {o : Bool} : ∀ {p : List St}, St.ds o p = p.map (St.d o)
  | [] => rfl
  | s :: r => by rw [St.ds, St.ds_map, List.map_cons]
@[simp] theorem St.d_row {o : Bool} {t : List Nat} : St.d o (.row t) = .tup [.str "row", txD t] := by rw [St.d]
@[simp] theorem St.d_all {o : Bool} {x : Nat} : St.d o (.all x) = .tup [.str "all", letD x] := by rw [St.d]
@[simp] theorem St.d_times {o : Bool} {n : Int} {b : List St} : St.d o (.times n b) = .tup [.str "times", .int n, .box o .lst (b.map (St.d o))] := by rw [St.d, St.ds_map]
@[simp] theorem St.d_mirror {o : Bool} {b : List St} : St.d o (.mirror b) = .tup [.str "mirror", .box o .lst (b.map (St.d o))] := by rw [St.d, St.ds_map]
theorem St.deps_le {k : Nat} : ∀ {p : List St}, St.deps p ≤ k → ∀ s ∈ p, s.dep ≤ k
  | s :: r, h, x, hx => by
    rw [St.deps] at h
    rcases List.mem_cons.mp hx with rfl | hx
    · omega
    · exact St.deps_le (by omega) x hx
theorem St.deps_of {k : Nat} : ∀ {p : List St}, (∀ s ∈ p, s.dep ≤ k) → St.deps p ≤ k
  | [], _ => by rw [St.deps]; omega
  | s :: r, h => by
    rw [St.deps]
    have h1 := h s List.mem_cons_self
    have h2 := St.deps_of (p := r) fun x hx => h x (List.mem_cons_of_mem _ hx)
    omega
theorem St.deps_app {p q : List St} : St.deps (p ++ q) = max (St.deps p) (St.deps q) := by
  induction p with
  | nil => rw [List.nil_append, St.deps]; omega
  | cons s r ih => rw [List.cons_append, St.deps, St.deps, ih]; omega
theorem St.oks_mem {B : Nat} {R : List Nat → Bool} : ∀ {p : List St}, St.oks B R p = true → ∀ s ∈ p, s.ok B R = true
  | s :: r, h, x, hx => by
    rw [St.oks] at h
    obtain ⟨h1, h2⟩ := and_t h
    rcases List.mem_cons.mp hx with rfl | hx
    · exact h1
    · exact St.oks_mem h2 x hx
theorem St.oks_app {B : Nat} {R : List Nat → Bool} {p q : List St} : St.oks B R (p ++ q) = (St.oks B R p && St.oks B R q) := by
  induction p with
  | nil => rw [List.nil_append, St.oks]; rfl
  | cons s r ih => rw [List.cons_append, St.oks, St.oks, ih, Bool.and_assoc]
theorem St.tals_app {p q : List St} : St.tals (p ++ q) = St.tals p + St.tals q := by
  induction p with
  | nil => rw [List.nil_append, St.tals]; omega
  | cons s r ih => rw [List.cons_append, St.tals, St.tals, ih]; omega
theorem St.tals_foldl {p : List St} : ∀ {a : Int}, p.foldl (fun a s => a + s.tal) a = a + St.tals p := by
  induction p with
  | nil => intro a; rw [St.tals]; simp
  | cons s r ih => intro a; rw [List.foldl_cons, ih, St.tals]; omega
theorem St.tals_nn {B : Nat} {R : List Nat → Bool} {p : List St} (h : St.oks B R p = true) : 0 ≤ St.tals p := by
  have key : ∀ (k : Nat) (p : List St), St.deps p ≤ k → St.oks B R p = true → 0 ≤ St.tals p := by
    intro k
    induction k with
    | zero =>
      intro p hd ho
      induction p with
      | nil => rw [St.tals]; omega
      | cons s r ih =>
        rw [St.deps] at hd
        rw [St.oks] at ho
        obtain ⟨h1, h2⟩ := and_t ho
        have := ih (by omega) h2
        rw [St.tals]
        cases s with
        | row t => rw [St.tal]; omega
        | all x => rw [St.tal]; omega
        | times n b => rw [St.dep] at hd; omega
        | mirror b => rw [St.dep] at hd; omega
    | succ k ihk =>
      intro p hd ho
      induction p with
      | nil => rw [St.tals]; omega
      | cons s r ih =>
        rw [St.deps] at hd
        rw [St.oks] at ho
        obtain ⟨h1, h2⟩ := and_t ho
        have := ih (by omega) h2
        rw [St.tals]
        cases s with
        | row t => rw [St.tal]; omega
        | all x => rw [St.tal]; omega
        | times n b =>
          rw [St.dep] at hd
          rw [St.ok] at h1
          obtain ⟨h3, h4⟩ := and_t h1
          have h3 := of_decide_eq_true h3
          have := ihk b (by omega) (and_t h4).2
          rw [St.tal]
          have := Int.mul_nonneg h3.1 this
          omega
        | mirror b =>
          rw [St.dep] at hd
          rw [St.ok] at h1
          have := ihk b (by omega) (and_t h1).2
          rw [St.tal]
          omega
  exact key _ p (Nat.le_refl _) h
theorem St.no_d : ∀ (k : Nat) (s : St), s.dep ≤ k → (St.d false s).no = true ∧ (St.d true s).frz = St.d false s ∧ (St.d false s).frz = St.d false s ∧ (St.d true s).fr = true ∧ (St.d false s).pl (2 * k + 1) = true
  | k, .row t, _ => by simp [txD]
  | k, .all x, _ => by simp [letD]
  | 0, .times n b, h => by rw [St.dep] at h; omega
  | 0, .mirror b, h => by rw [St.dep] at h; omega
  | k + 1, .times n b, h => by
    rw [St.dep] at h
    have ih := fun s (hs : s ∈ b) => St.no_d k s (St.deps_le (by omega) s hs)
    have h1 : D.nos (b.map (St.d false)) = true := nos_of fun d hd => by
      obtain ⟨s, hs, rfl⟩ := List.mem_map.mp hd
      exact (ih s hs).1
    have h2 : D.frzs (b.map (St.d true)) = b.map (St.d false) := by
      rw [frzs_mapF]
      exact List.map_congr_left fun s hs => (ih s hs).2.1
    have h3 : D.frzs (b.map (St.d false)) = b.map (St.d false) := D.frzs_nos _ h1
    have h4 : D.frs (b.map (St.d true)) = true := by
      clear h1 h2 h3 h
      induction b with
      | nil => simp
      | cons s r ihb => simp [(ih s List.mem_cons_self).2.2.2.1, ihb fun s hs => ih s (List.mem_cons_of_mem _ hs)]
    have h5 : (b.map (St.d false)).all (D.pl (2 * k + 1)) = true := List.all_eq_true.mpr fun d hd => by
      obtain ⟨s, hs, rfl⟩ := List.mem_map.mp hd
      exact (ih s hs).2.2.2.2
    refine ⟨by simp [h1], by simp [h2], by simp [h3], by simp [h4], ?_⟩
    rw [show 2 * (k + 1) + 1 = (2 * k + 1) + 1 + 1 by omega]
    simp only [St.d_times, pl_tup, List.all_cons, List.all_nil, pl_str, pl_int, pl_box, h5]
    rfl
  | k + 1, .mirror b, h => by
    rw [St.dep] at h
    have ih := fun s (hs : s ∈ b) => St.no_d k s (St.deps_le (by omega) s hs)
    have h1 : D.nos (b.map (St.d false)) = true := nos_of fun d hd => by
      obtain ⟨s, hs, rfl⟩ := List.mem_map.mp hd
      exact (ih s hs).1
    have h2 : D.frzs (b.map (St.d true)) = b.map (St.d false) := by
      rw [frzs_mapF]
      exact List.map_congr_left fun s hs => (ih s hs).2.1
    have h3 : D.frzs (b.map (St.d false)) = b.map (St.d false) := D.frzs_nos _ h1
    have h4 : D.frs (b.map (St.d true)) = true := by
      clear h1 h2 h3 h
      induction b with
      | nil => simp
      | cons s r ihb => simp [(ih s List.mem_cons_self).2.2.2.1, ihb fun s hs => ih s (List.mem_cons_of_mem _ hs)]
    have h5 : (b.map (St.d false)).all (D.pl (2 * k + 1)) = true := List.all_eq_true.mpr fun d hd => by
      obtain ⟨s, hs, rfl⟩ := List.mem_map.mp hd
      exact (ih s hs).2.2.2.2
    refine ⟨by simp [h1], by simp [h2], by simp [h3], by simp [h4], ?_⟩
    rw [show 2 * (k + 1) + 1 = (2 * k + 1) + 1 + 1 by omega]
    simp only [St.d_mirror, pl_tup, List.all_cons, List.all_nil, pl_str, pl_int, pl_box, h5]
    rfl
@[simp] theorem St.no {s : St} : (St.d false s).no = true := (St.no_d _ s (Nat.le_refl _)).1
@[simp] theorem St.frzT {s : St} : (St.d true s).frz = St.d false s := (St.no_d _ s (Nat.le_refl _)).2.1
@[simp] theorem St.frzF {s : St} : (St.d false s).frz = St.d false s := (St.no_d _ s (Nat.le_refl _)).2.2.1
@[simp] theorem St.fr {s : St} : (St.d true s).fr = true := (St.no_d _ s (Nat.le_refl _)).2.2.2.1
theorem St.pl {s : St} {k : Nat} (h : s.dep ≤ k) : (St.d false s).pl (2 * k + 1) = true := (St.no_d k s h).2.2.2.2
@[simp] theorem St.nosF {p : List St} : D.nos (p.map (St.d false)) = true := nos_of fun d hd => by
  obtain ⟨s, _, rfl⟩ := List.mem_map.mp hd
  exact St.no
@[simp] theorem St.frzsT {p : List St} : D.frzs (p.map (St.d true)) = p.map (St.d false) := by
  rw [frzs_mapF]
  exact List.map_congr_left fun s _ => St.frzT
@[simp] theorem St.frzsF {p : List St} : D.frzs (p.map (St.d false)) = p.map (St.d false) := D.frzs_nos _ St.nosF
@[simp] theorem St.frsT {p : List St} : D.frs (p.map (St.d true)) = true := by
  induction p with
  | nil => simp
  | cons s r ih => simp [ih]
theorem St.pls {p : List St} {k : Nat} (h : St.deps p ≤ k) : (D.box false .lst (p.map (St.d false))).pl (2 * k + 2) = true := by
  rw [show 2 * k + 2 = (2 * k + 1) + 1 by omega, pl_box]
  have : (p.map (St.d false)).all (D.pl (2 * k + 1)) = true := List.all_eq_true.mpr fun d hd => by
    obtain ⟨s, hs, rfl⟩ := List.mem_map.mp hd
    exact St.pl (St.deps_le h s hs)
  rw [this]; rfl
theorem St.oks_of {B : Nat} {R : List Nat → Bool} : ∀ {p : List St}, (∀ s ∈ p, s.ok B R = true) → St.oks B R p = true
  | [], _ => by rw [St.oks]
  | s :: r, h => by
    rw [St.oks, h s List.mem_cons_self, St.oks_of fun x hx => h x (List.mem_cons_of_mem _ hx)]
    rfl
theorem St.ok_imp {B C : Nat} {R R' : List Nat → Bool} (hB : B ≤ C) (hR : ∀ t, R t = true → R' t = true) : ∀ (k : Nat) (s : St), s.dep ≤ k → s.ok B R = true → s.ok C R' = true
  | k, .row t, _, h => by rw [St.ok] at h ⊢; exact hR _ h
  | k, .all x, _, h => by rw [St.ok] at h ⊢; exact hR _ h
  | 0, .times n b, h, _ => by rw [St.dep] at h; omega
  | 0, .mirror b, h, _ => by rw [St.dep] at h; omega
  | k + 1, .times n b, h, ho => by
    rw [St.dep] at h
    rw [St.ok] at ho ⊢
    obtain ⟨h1, h2⟩ := and_t ho
    obtain ⟨h2, h3⟩ := and_t h2
    rw [h1, decide_eq_true (Nat.le_trans (of_decide_eq_true h2) hB), St.oks_of fun s hs => St.ok_imp hB hR k s (St.deps_le (by omega) s hs) (St.oks_mem h3 s hs)]
    rfl
  | k + 1, .mirror b, h, ho => by
    rw [St.dep] at h
    rw [St.ok] at ho ⊢
    obtain ⟨h2, h3⟩ := and_t ho
    rw [decide_eq_true (Nat.le_trans (of_decide_eq_true h2) hB), St.oks_of fun s hs => St.ok_imp hB hR k s (St.deps_le (by omega) s hs) (St.oks_mem h3 s hs)]
    rfl
theorem St.oks_imp {B C : Nat} {R R' : List Nat → Bool} (hB : B ≤ C) (hR : ∀ t, R t = true → R' t = true) {p : List St} (h : St.oks B R p = true) : St.oks C R' p = true := St.oks_of fun s hs => St.ok_imp hB hR _ s (Nat.le_refl _) (St.oks_mem h s hs)
@[simp] theorem ne_row_times : ¬ (Str.ofString "row" = Str.ofString "times") := by decide +kernel
@[simp] theorem ne_all_times : ¬ (Str.ofString "all" = Str.ofString "times") := by decide +kernel
@[simp] theorem ne_mir_times : ¬ (Str.ofString "mirror" = Str.ofString "times") := by decide +kernel
@[simp] theorem ne_row_mir : ¬ (Str.ofString "row" = Str.ofString "mirror") := by decide +kernel
@[simp] theorem ne_all_mir : ¬ (Str.ofString "all" = Str.ofString "mirror") := by decide +kernel
@[simp] theorem ne_times_mir : ¬ (Str.ofString "times" = Str.ofString "mirror") := by decide +kernel
@[simp] theorem ne_all_row : ¬ (Str.ofString "all" = Str.ofString "row") := by decide +kernel
@[simp] theorem ne_times_row : ¬ (Str.ofString "times" = Str.ofString "row") := by decide +kernel
@[simp] theorem ne_mir_row : ¬ (Str.ofString "mirror" = Str.ofString "row") := by decide +kernel
@[simp] theorem ne_row_all : ¬ (Str.ofString "row" = Str.ofString "all") := by decide +kernel
@[simp] theorem ne_times_all : ¬ (Str.ofString "times" = Str.ofString "all") := by decide +kernel
@[simp] theorem ne_mir_all : ¬ (Str.ofString "mirror" = Str.ofString "all") := by decide +kernel

theorem tally_of {n k : Nat} (h1 : ∀ s : St, s.dep ≤ k → ∀ {B : Nat} {R : List Nat → Bool}, s.ok B R = true → goD (tx.run n) tx.gl tx.ex d_tally_one [St.d false s] = .ok (.int s.tal)) {p : List St} {B : Nat} {R : List Nat → Bool} (hd : St.deps p ≤ k) (ho : St.oks B R p = true) :
    goD (tx.run (n + 1)) tx.gl tx.ex d_tally [.box false .lst (p.map (St.d false))] = .ok (.int (St.tals p)) := by
  refine goD_eq rfl ?_
  simp [d_tally]
  refine wo_st (fun a _ δ => δ = [.box false .lst (p.map (St.d false)), .int a, .dead]) (fun a s => a + s.tal) 0 rfl (fun a s δ Pn hs hR hn => ?_) (fun δ hR => ?_)
  · subst hR
    refine ⟨_, bind_nm (by simp), ?_⟩
    have e := h1 s (St.deps_le hd s hs) (St.oks_mem ho s hs)
    have hl : locD (some (St.d false s)) = .ok (St.d false s) := by cases s <;> simp
    simp [d_tally_b1, hl, e]
    exact hn _ rfl
  · subst hR
    rw [St.tals_foldl]
    simp
theorem tally_eq : ∀ (k : Nat) {n : Nat} {p : List St} {B : Nat} {R : List Nat → Bool}, St.deps p ≤ k → St.oks B R p = true → goD (tx.run (n + 2 * k + 1)) tx.gl tx.ex d_tally [.box false .lst (p.map (St.d false))] = .ok (.int (St.tals p))
  | 0, n, p, B, R, hd, ho => tally_of (n := n) (k := 0) (fun s hs {B R} ho => by
      cases s with
      | row t => simp [d_tally_one, St.tal]
      | all x => simp [d_tally_one, St.tal]
      | times m b => rw [St.dep] at hs; omega
      | mirror b => rw [St.dep] at hs; omega) hd ho
  | k + 1, n, p, B, R, hd, ho => tally_of (n := n + 2 * (k + 1)) (k := k + 1) (fun s hs {B R} ho => by
      cases s with
      | row t => simp [d_tally_one, St.tal]
      | all x => simp [d_tally_one, St.tal]
      | times m b =>
        rw [St.dep] at hs
        rw [St.ok] at ho
        obtain ⟨h1, h2⟩ := and_t ho
        have h1 := of_decide_eq_true h1
        have e := tally_eq k (n := n) (p := b) (by omega) (and_t h2).2
        have em : binD .mul (.int m) (.int (St.tals b)) = .ok (.int (m * St.tals b)) := mul_int (.inl (by omega))
        rw [show n + 2 * (k + 1) = (n + 2 * k + 1) + 1 by omega]
        simp [d_tally_one, St.tal, e, em]
      | mirror b =>
        rw [St.dep] at hs
        rw [St.ok] at ho
        have e := tally_eq k (n := n) (p := b) (by omega) (and_t ho).2
        have em : binD .mul (.int 2) (.int (St.tals b)) = .ok (.int (2 * St.tals b)) := mul_int (.inl (by omega))
        rw [show n + 2 * (k + 1) = (n + 2 * k + 1) + 1 by omega]
        simp [d_tally_one, St.tal, e, em]) hd ho

theorem law_sum_of {n k : Nat} (ih : ∀ b : List St, St.deps b + 1 ≤ k → ∀ {B : Nat} {R : List Nat → Bool}, St.oks B R b = true → ∃ F, tx.run n "_law_sum" = some F ∧ F [.box false .lst (b.map (St.d false))] = .ok (.int (St.tals b))) {p : List St} {B : Nat} {R : List Nat → Bool} (hd : St.deps p ≤ k) (ho : St.oks B R p = true) :
    goD (tx.run n) tx.gl tx.ex d_law_sum [.box false .lst (p.map (St.d false))] = .ok (.int (St.tals p)) := by
  refine goD_eq rfl ?_
  simp [d_law_sum]
  refine wo_st (fun a _ δ => δ = [.box false .lst (p.map (St.d false)), .int a, .dead]) (fun a s => a + s.tal) 0 rfl (fun a s δ Pn hs hR hn => ?_) (fun δ hR => ?_)
  · subst hR
    refine ⟨_, bind_nm (by simp), ?_⟩
    have hds := St.deps_le hd s hs
    have hos := St.oks_mem ho s hs
    cases s with
    | row t =>
      simp [d_law_sum_b1]
      exact hn _ (by simp [St.tal])
    | all x =>
      simp [d_law_sum_b1]
      exact hn _ (by simp [St.tal])
    | times m b =>
      rw [St.dep] at hds
      rw [St.ok] at hos
      obtain ⟨h1, h2⟩ := and_t hos
      have h1 := of_decide_eq_true h1
      obtain ⟨F, e1, e2⟩ := ih b hds (and_t h2).2
      have em : binD .mul (.int m) (.int (St.tals b)) = .ok (.int (m * St.tals b)) := mul_int (.inl (by omega))
      simp [d_law_sum_b1, e1, e2, em]
      exact hn _ (by simp [St.tal])
    | mirror b =>
      rw [St.dep] at hds
      rw [St.ok] at hos
      obtain ⟨F, e1, e2⟩ := ih b hds (and_t hos).2
      have em : binD .mul (.int 2) (.int (St.tals b)) = .ok (.int (2 * St.tals b)) := mul_int (.inl (by omega))
      simp [d_law_sum_b1, e1, e2, em]
      exact hn _ (by simp [St.tal])
  · subst hR
    rw [St.tals_foldl]
    simp
theorem law_sum_eq : ∀ (k : Nat) {n : Nat} {p : List St} {B : Nat} {R : List Nat → Bool}, St.deps p ≤ k → St.oks B R p = true → goD (tx.run (n + k)) tx.gl tx.ex d_law_sum [.box false .lst (p.map (St.d false))] = .ok (.int (St.tals p))
  | 0, n, p, B, R, hd, ho => law_sum_of (k := 0) (fun b hb => by omega) hd ho
  | k + 1, n, p, B, R, hd, ho => law_sum_of (n := n + (k + 1)) (k := k + 1) (fun b hb {B R} hob => ⟨_, run_law_sum (n := n + k), law_sum_eq k (by omega) hob⟩) hd ho

/-- an entry of the law's stack: what it opens, its number, its statements -/
structure Ent where
  kd : Nat
  m : Int
  b : List St
def Ent.h (e : Ent) : D := .tup [.str (if e.kd = 0 then "top" else if e.kd = 1 then "times" else "mirror"), .int e.m]
def Ent.d (e : Ent) : D := .tup [e.h, .box true .lst (e.b.map (St.d false))]
/-- the stack, its top first -/
def stkD (st : List Ent) : D := .box true .lst (st.reverse.map Ent.d)
def foldM (m t : Int) : Int := if (if t = 0 then m % 4 else m) = 0 ∧ 3000 < t then 1 else if t = 0 then m % 4 else m
def foldS (e : Ent) : St := if e.kd = 1 then .times (foldM e.m (St.tals e.b)) e.b else .mirror e.b
def foldF : List Ent → List Ent
  | e :: e0 :: r => ⟨e0.kd, e0.m, e0.b ++ [foldS e]⟩ :: r
  | st => st
theorem ix_last {α : Type} {xs : List α} {x : α} : ixN (xs ++ [x]).length (-1) = some xs.length := by
  unfold L2.ixN
  rw [List.length_append, List.length_singleton]
  simp
  omega
@[simp] theorem i21 : L2.ixN 2 1 = some 1 := by decide +kernel
theorem fold_times {n k : Nat} {xs : List D} {h0 : D} {b0 : List D} {m : Int} {b : List St} (hd : St.deps b ≤ k) {B : Nat} {R : List Nat → Bool} (ho : St.oks B R b = true) (hl : b0.length ≤ 100000) :
    goX (tx.run (n + k + 1)) tx.gl tx.ex d_law_fold [true] [.box true .lst (xs ++ [.tup [h0, .box true .lst b0], .tup [.tup [.str "times", .int m], .box true .lst (b.map (St.d false))]])] = .ok (.tup [.non, .box true .lst (xs ++ [.tup [h0, .box true .lst (b0 ++ [St.d false (.times (foldM m (St.tals b)) b)])]])]) := by
  have es := law_sum_eq k (n := n) hd ho
  have hz : b0.length < sizeLine := sz1 (by omega)
  have hx := ix_last (xs := xs) (x := .tup [h0, .box true .lst b0])
  have h1 : (1 : Int) < (xs.length : Int) + 2 := by omega
  have h2 : (1 : Int) < (xs.length : Int) + 1 + 1 := by omega
  rw [goX_len2 ⟨rfl, rfl⟩]
  unfold foldM
  have hx2 : ixN (xs.length + 1) (-1) = some xs.length := by rw [List.length_append] at hx; exact hx
  simp [d_law_fold, es, h1, h2]
  by_cases h0 : St.tals b = 0
  · simp [h0, es, hx2, hz]
  · by_cases hb : m = 0 ∧ 3000 < St.tals b
    · obtain ⟨rfl, hb⟩ := hb
      simp [h0, hb, es, hx2, hz]
    · by_cases hm0 : m = 0
      · have h5 : ¬ (3000 : Int) < St.tals b := fun h => hb ⟨hm0, h⟩
        subst hm0
        simp [h0, h5, es, hx2, hz]
      · simp [h0, hm0, es, hx2, hz]
theorem fold_mirror {n k : Nat} {xs : List D} {h0 : D} {b0 : List D} {m : Int} {b : List St} (hd : St.deps b ≤ k) {B : Nat} {R : List Nat → Bool} (ho : St.oks B R b = true) (hl : b0.length ≤ 100000) :
    goX (tx.run (n + k + 1)) tx.gl tx.ex d_law_fold [true] [.box true .lst (xs ++ [.tup [h0, .box true .lst b0], .tup [.tup [.str "mirror", .int m], .box true .lst (b.map (St.d false))]])] = .ok (.tup [.non, .box true .lst (xs ++ [.tup [h0, .box true .lst (b0 ++ [St.d false (.mirror b)])]])]) := by
  have es := law_sum_eq k (n := n) hd ho
  have hz : b0.length < sizeLine := sz1 (by omega)
  have hx := ix_last (xs := xs) (x := .tup [h0, .box true .lst b0])
  have h1 : (1 : Int) < (xs.length : Int) + 2 := by omega
  have h2 : (1 : Int) < (xs.length : Int) + 1 + 1 := by omega
  rw [goX_len2 ⟨rfl, rfl⟩]
  have hx2 : ixN (xs.length + 1) (-1) = some xs.length := by rw [List.length_append] at hx; exact hx
  simp [d_law_fold, es, h1, h2]
  by_cases h0 : St.tals b = 0
  · simp [h0, es, hx2, hz]
  · by_cases hb : m = 0 ∧ 3000 < St.tals b
    · obtain ⟨rfl, hb⟩ := hb
      simp [h0, hb, es, hx2, hz]
    · by_cases hm0 : m = 0
      · have h5 : ¬ (3000 : Int) < St.tals b := fun h => hb ⟨hm0, h⟩
        subst hm0
        simp [h0, h5, es, hx2, hz]
      · simp [h0, hm0, es, hx2, hz]
theorem fold_one {n : Nat} {x : D} : goX (tx.run n) tx.gl tx.ex d_law_fold [true] [.box true .lst [x]] = .ok (.tup [.non, .box true .lst [x]]) := by
  rw [goX_len2 ⟨rfl, rfl⟩]
  simp [d_law_fold]
theorem Ent.d_t {m : Int} {b : List St} : Ent.d ⟨1, m, b⟩ = .tup [.tup [.str "times", .int m], .box true .lst (b.map (St.d false))] := by simp [Ent.d, Ent.h]
theorem Ent.d_m {m : Int} {b : List St} : Ent.d ⟨2, m, b⟩ = .tup [.tup [.str "mirror", .int m], .box true .lst (b.map (St.d false))] := by simp [Ent.d, Ent.h]
theorem fold_eq {n k : Nat} {e e0 : Ent} {r : List Ent} (hk : e.kd = 1 ∨ e.kd = 2) (hd : St.deps e.b ≤ k) {B : Nat} {R : List Nat → Bool} (ho : St.oks B R e.b = true) (hl : e0.b.length ≤ 100000) :
    goX (tx.run (n + k + 1)) tx.gl tx.ex d_law_fold [true] [stkD (e :: e0 :: r)] = .ok (.tup [.non, stkD (foldF (e :: e0 :: r))]) := by
  obtain ⟨kd, m, b⟩ := e
  obtain ⟨kd0, m0, b0⟩ := e0
  have e1 : ∀ s, (Ent.mk kd0 m0 (b0 ++ [s])).d = .tup [(Ent.mk kd0 m0 b0).h, .box true .lst (b0.map (St.d false) ++ [St.d false s])] := by intro s; simp [Ent.d, Ent.h]
  have e2 : (Ent.mk kd0 m0 b0).d = .tup [(Ent.mk kd0 m0 b0).h, .box true .lst (b0.map (St.d false))] := rfl
  have hl' : (b0.map (St.d false)).length ≤ 100000 := by rw [List.length_map]; exact hl
  rcases hk with rfl | rfl
  · have := fold_times (n := n) (xs := r.reverse.map Ent.d) (h0 := (Ent.mk kd0 m0 b0).h) (m := m) hd ho hl'
    unfold stkD foldF foldS
    rw [List.reverse_cons, List.reverse_cons, List.reverse_cons, List.append_assoc, List.map_append, List.map_append]
    rw [List.map_append]
    simp only [List.map_cons, List.map_nil, List.singleton_append, Ent.d_t, e1, e2, if_true]
    exact this
  · have := fold_mirror (n := n) (xs := r.reverse.map Ent.d) (h0 := (Ent.mk kd0 m0 b0).h) (m := m) hd ho hl'
    unfold stkD foldF foldS
    rw [List.reverse_cons, List.reverse_cons, List.reverse_cons, List.append_assoc, List.map_append, List.map_append]
    rw [List.map_append]
    simp only [List.map_cons, List.map_nil, List.singleton_append, Ent.d_m, e1, e2, if_neg (show ¬ (2 : Nat) = 1 by decide)]
    exact this

/-- drawn numbers: many of them, each below base -/
theorem row_ok {n : Nat} {c m b : Int} (h0 : 0 ≤ m) (hm : m ≤ 1000000) (hb : 0 < b) (hb2 : b < 1073741824) :
    ∃ xs : List Int, goD (tx.run n) tx.gl tx.ex d_law_row [.int c, .int m, .int b] = .ok (.box true .lst (xs.map .int)) ∧ xs.length = m.toNat ∧ ∀ x ∈ xs, 0 ≤ x ∧ x < b := by
  have hm1 : smallI m := smallI_of (by omega) (by omega)
  have : Yld (goD (tx.run n) tx.gl tx.ex d_law_row [.int c, .int m, .int b]) fun d => ∃ xs : List Int, d = .box true .lst (xs.map .int) ∧ xs.length = m.toNat ∧ ∀ x ∈ xs, 0 ≤ x ∧ x < b := by
    refine goD_yld rfl ?_
    simp [d_law_row, rng1_int hm1]
    refine wo_rng (fun i _ δ => ∃ (now mix : Int) (far : Bool) (xs : List Int), δ = [.int c, .int m, .int b, .int now, .bl far, .int mix, .box true .lst (xs.map .int), .dead] ∧ 0 ≤ now ∧ 0 ≤ mix ∧ mix < 2147483647 ∧ xs.length = i ∧ ∀ x ∈ xs, 0 ≤ x ∧ x < b) ?_ (fun i δ Pn hi p hn2 => ?_) (fun δ p => ?_)
    · exact ⟨_, _, _, [], rfl, by split <;> omega, by omega, by omega, rfl, fun _ z => nomatch z⟩
    · obtain ⟨now, mix, far, xs, rfl, hn, h1, h2, hl, hx⟩ := p
      have hz : xs.length < sizeLine := by rw [sizeLine_eq]; omega
      refine ⟨_, bind_nm (by simp), ?_⟩
      have hmod : ∀ u : Int, binD .mul (.int (u % 2147483647)) (.int (u % 2147483647)) = .ok (.int (u % 2147483647 * (u % 2147483647))) := fun u => mul_int (by omega)
      have all : ∀ y : Int, ∀ x ∈ xs ++ [y % b], 0 ≤ x ∧ x < b := fun y x hxx => by
        rcases List.mem_append.mp hxx with z | z
        · exact hx x z
        · rw [List.mem_singleton.mp z]
          exact ⟨Int.emod_nonneg _ (by omega), Int.emod_lt_of_pos _ hb⟩
      have go : ∀ (f : Bool) (nw mx : Int) (y : Int), 0 ≤ nw → 0 ≤ mx → mx < 2147483647 → Pn [D.int c, .int m, .int b, .int nw, .bl f, .int mx, .box true .lst (xs.map .int ++ [.int (y % b)]), .dead] := fun f nw mx y a1 a2 a3 => hn2 _ ⟨nw, mx, f, xs ++ [y % b], by simp, a1, a2, a3, by simp [hl], all y⟩
      cases far with
      | true =>
        by_cases hp : 0 < now
        · simp [d_law_row_b1, hp, hz, hb, hb2]
          exact go _ _ _ _ (Int.ediv_nonneg hn (by omega)) (by omega) (by omega)
        · simp [d_law_row_b1, hp, hz, hb, hb2, hmod]
          exact go _ _ _ _ hn (by omega) (by omega)
      | false =>
        simp [d_law_row_b1, hz, hb, hb2, hmod]
        exact go _ _ _ _ hn (by omega) (by omega)
    · obtain ⟨now, mix, far, xs, rfl, hn, h1, h2, hl, hx⟩ := p
      simp
      exact ⟨xs, rfl, by rw [hl]; simp, hx⟩
  obtain ⟨_, e, xs, rfl, h⟩ := this
  exact ⟨xs, e, h⟩

def fbiT (i : Int) : T := if i = 0 then .f else if i = 1 then .b else .i
theorem fbi_at {i : Int} (h0 : 0 ≤ i) (h : i < 3) : ixD (.str "fbi") (.int i) = .ok (fbiT i).d := by
  rcases (show i = 0 ∨ i = 1 ∨ i = 2 from by omega) with rfl | rfl | rfl <;> exact ix_strAt (sz (show 3 ≤ 1000000 by omega)) (by decide +kernel)
theorem fbi_mod {i : Int} : ixD (.str "fbi") (.int (i % 3)) = .ok (fbiT (i % 3)).d := fbi_at (by omega) (by omega)
theorem turns_ok {n : Nat} {c m : Int} (h0 : 0 ≤ m) (hm : m ≤ 1000) : ∃ ts : List T, goD (tx.run (n + 1)) tx.gl tx.ex d_law_turns [.int c, .int m] = .ok (tsD ts) ∧ ts.length = m.toNat := by
  by_cases h7 : c % 7 = 3
  · refine ⟨List.replicate m.toNat (fbiT (c / 7 % 3)), ?_, by simp⟩
    have hmul : ∀ t : T, binD .mul t.d (.int m) = .ok (tsD (List.replicate m.toNat t)) := fun t => by
      refine (if_pos ⟨h0, by omega, ?_, by show 1 ≤ _; omega⟩ : binD .mul (.str ⟨#[t.c]⟩) (.int m) = .ok (.str (repS ⟨#[t.c]⟩ m))).trans ?_
      · have : repS ⟨#[t.c]⟩ m = ⟨((List.replicate m.toNat t).map T.c).toArray⟩ := str_ext (by
          rw [repS_char h0]
          simp)
        rw [this]
        rfl
      · rw [sizeLine_eq]
        show 1 * m.toNat ≤ _
        omega
    simp [d_law_turns, h7, fbi_mod, hmul]
  · obtain ⟨xs, er, hl, hx⟩ := row_ok (n := n) (c := c / 7) (m := m) (b := 3) h0 (by omega) (by omega) (by omega)
    refine ⟨xs.map fbiT, ?_, by simpa using hl⟩
    simp [d_law_turns, h7, er]
    rw [lc_map (fun x => (fbiT x).d) (sz (by omega)) fun x hxx => ⟨_, bind_nm (by simp), rfl, by simp [d_law_turns_e1, wipeD, fbi_at (hx x hxx).1 (hx x hxx).2], fun _ => by simp⟩]
    have e : (xs.map fun x => (fbiT x).d) = (xs.map fbiT).map T.d := by simp
    rw [e]
    simp only [bind_ok]
    rw [join_ts (by simp; omega)]
    simp

def goodE (R : List Nat → Bool) (c : Nat) (e : Ent) : Prop := St.oks 100 R e.b = true ∧ e.b.length ≤ c ∧ 0 ≤ e.m ∧ e.m ≤ 99
def stk (R : List Nat → Bool) (c : Nat) : List Ent → Prop
  | [] => True
  | e :: r => goodE R c e ∧ St.deps e.b + r.length ≤ 7 ∧ (r = [] ∨ e.kd = 1 ∨ e.kd = 2) ∧ stk R c r
theorem goodE_mono {R : List Nat → Bool} {c c' : Nat} (h : c ≤ c') {e : Ent} (g : goodE R c e) : goodE R c' e := ⟨g.1, Nat.le_trans g.2.1 h, g.2.2⟩
theorem stk_mono {R : List Nat → Bool} {c c' : Nat} (h : c ≤ c') : ∀ {st : List Ent}, stk R c st → stk R c' st
  | [], _ => trivial
  | _ :: _, g => ⟨goodE_mono h g.1, g.2.1, g.2.2.1, stk_mono h g.2.2.2⟩
theorem foldM_ok {m t : Int} (h : 0 ≤ m ∧ m ≤ 99) : 0 ≤ foldM m t ∧ foldM m t ≤ 99 := by
  unfold foldM
  (repeat' split) <;> omega
theorem foldS_ok {R : List Nat → Bool} {c : Nat} {e : Ent} (g : goodE R c e) (hc : c ≤ 100) : (foldS e).ok 100 R = true ∧ (foldS e).dep = St.deps e.b + 1 := by
  have hl := g.2.1
  unfold foldS
  split
  · rw [St.ok, St.dep, g.1, decide_eq_true (foldM_ok g.2.2), decide_eq_true (show e.b.length ≤ 100 by omega)]
    exact ⟨rfl, rfl⟩
  · rw [St.ok, St.dep, g.1, decide_eq_true (show e.b.length ≤ 100 by omega)]
    exact ⟨rfl, rfl⟩
theorem oks_snoc {B : Nat} {R : List Nat → Bool} {b : List St} {s : St} (hb : St.oks B R b = true) (hs : s.ok B R = true) : St.oks B R (b ++ [s]) = true := by
  rw [St.oks_app, hb, St.oks, hs, St.oks]
  rfl
theorem deps_snoc {b : List St} {s : St} : St.deps (b ++ [s]) = max (St.deps b) s.dep := by
  rw [St.deps_app, St.deps, St.deps]
  omega
theorem stk_push {R : List Nat → Bool} {c : Nat} {e : Ent} {r : List Ent} {s : St} (h : stk R c (e :: r)) (hs : s.ok 100 R = true) (hd : s.dep + r.length ≤ 7) : stk R (c + 1) (⟨e.kd, e.m, e.b ++ [s]⟩ :: r) := by
  obtain ⟨g, h1, h2, h3⟩ := h
  refine ⟨⟨oks_snoc g.1 hs, ?_, g.2.2⟩, ?_, h2, stk_mono (Nat.le_succ c) h3⟩
  · rw [List.length_append, List.length_singleton]
    have := g.2.1
    omega
  · show St.deps (e.b ++ [s]) + r.length ≤ 7
    rw [deps_snoc]
    omega
theorem stk_fold {R : List Nat → Bool} {c : Nat} {e e0 : Ent} {r : List Ent} (h : stk R c (e :: e0 :: r)) (hc : c ≤ 100) : stk R (c + 1) (foldF (e :: e0 :: r)) := by
  obtain ⟨g, h1, h2, h3⟩ := h
  obtain ⟨ho, hd⟩ := foldS_ok g hc
  refine stk_push h3 ho ?_
  rw [hd]
  rw [List.length_cons] at h1
  omega
theorem stk_open {R : List Nat → Bool} {c : Nat} {r : List Ent} {kd : Nat} {m : Int} (h : stk R c r) (hk : kd = 1 ∨ kd = 2) (hm : 0 ≤ m ∧ m ≤ 99) (hl : r.length ≤ 7) : stk R c (⟨kd, m, []⟩ :: r) := by
  refine ⟨⟨by rw [St.oks], Nat.zero_le _, hm⟩, ?_, .inr hk, h⟩
  rw [St.deps]
  omega
theorem fold_stk {n : Nat} {R : List Nat → Bool} {c : Nat} {st : List Ent} (h : stk R c st) (hc : c ≤ 100) : goX (tx.run (n + 8)) tx.gl tx.ex d_law_fold [true] [stkD st] = .ok (.tup [.non, stkD (foldF st)]) := by
  rcases st with _ | ⟨e, _ | ⟨e0, r⟩⟩
  · rw [goX_len2 ⟨rfl, rfl⟩]
    simp [d_law_fold, stkD, foldF]
  · exact fold_one
  · obtain ⟨g, h1, h2, h3⟩ := h
    have h4 := h3.1.2.1
    exact fold_eq (n := n) (k := 7) (by simpa using h2) (by omega) g.1 (by omega)
theorem foldF_stk {R : List Nat → Bool} {c : Nat} {st : List Ent} (h : stk R c st) (hc : c ≤ 100) : stk R (c + 1) (foldF st) := by
  rcases st with _ | ⟨e, _ | ⟨e0, r⟩⟩
  · trivial
  · exact stk_mono (Nat.le_succ c) h
  · exact stk_fold h hc
theorem foldF_len {st : List Ent} : (foldF st).length = if 1 < st.length then st.length - 1 else st.length := by
  rcases st with _ | ⟨e, _ | ⟨e0, r⟩⟩
  · rfl
  · rfl
  · simp [foldF]

theorem stkD_cons {e : Ent} {r : List Ent} : stkD (e :: r) = .box true .lst (r.reverse.map Ent.d ++ [.tup [e.h, .box true .lst (e.b.map (St.d false))]]) := by
  unfold stkD
  rw [List.reverse_cons, List.map_append]
  rfl
theorem stkD_push {e : Ent} {r : List Ent} {s : St} : stkD (⟨e.kd, e.m, e.b ++ [s]⟩ :: r) = .box true .lst (r.reverse.map Ent.d ++ [.tup [e.h, .box true .lst (e.b.map (St.d false) ++ [St.d false s])]]) := by
  rw [stkD_cons, List.map_append]
  rfl
theorem stkD_open {kd : Nat} {m : Int} {r : List Ent} : stkD (⟨kd, m, []⟩ :: r) = .box true .lst (r.reverse.map Ent.d ++ [.tup [(Ent.mk kd m []).h, .box true .lst []]]) := stkD_cons
theorem stk_turn {n mx : Nat} {R : List Nat → Bool} {c : Nat} {st : List Ent} (h : stk R c st) (hne : st ≠ []) (h8 : st.length ≤ mx) (hmx : mx ≤ 8) (hc : c ≤ 99) {d w : Int} (hw : 0 ≤ w ∧ w ≤ 1000) (hT : ∀ ts : List T, ts.length = w.toNat → R (0 :: ts.map T.c) = true) (hA : ∀ t : T, R [1, t.c] = true) {x y : D} {Pn : List D → Prop} {w0 : Wn}
    (hn : ∀ st', stk R (c + 1) st' → st' ≠ [] → st'.length ≤ mx → Pn [x, .int w, .int mx, stkD st', .dead, .dead]) :
    Wo (exec (tx.run (n + 9)) tx.gl tx.ex d_law_program_b1 [x, .int w, .int mx, stkD st, .int d, .dead]) (wR Pn w0) := by
  rcases st with _ | ⟨e, r⟩
  · exact absurd rfl hne
  have g := h.1
  have hz : e.b.length < sizeLine := sz1 (by have := g.2.1; omega)
  have h8 : r.length + 1 ≤ mx := by simpa using h8
  have hr7 : r.length ≤ 7 := by omega
  have hx : L2.ixN (r.length + 1) (-1) = some r.length := by
    have := ix_last (xs := r) (x := e)
    rw [List.length_append] at this
    exact this
  by_cases h1 : d % 6 < 2
  · obtain ⟨ts, et, hl⟩ := turns_ok (n := n + 7) (c := d / 6) hw.1 hw.2
    have hs : (St.row (ts.map T.c)).ok 100 R = true := by rw [St.ok]; exact hT ts hl
    rw [stkD_cons]
    simp [d_law_program_b1, h1, et, hx, hz]
    have := hn _ (stk_push h hs (by rw [St.dep]; omega)) (by simp) (by simpa using h8)
    rw [stkD_push] at this
    simpa [txD, tsD] using this
  by_cases h2 : d % 6 = 2
  · have hs : (St.all (fbiT (d / 6 % 3)).c).ok 100 R = true := by rw [St.ok]; exact hA _
    rw [stkD_cons]
    simp [d_law_program_b1, h2, hx, hz, fbi_mod]
    have := hn _ (stk_push h hs (by rw [St.dep]; omega)) (by simp) (by simpa using h8)
    rw [stkD_push] at this
    simpa [letD, T.d] using this
  have h5 : d % 6 = 5 ∨ ¬ d % 6 = 5 := by omega
  by_cases h3 : d % 6 = 5 ∨ (r.length : Int) + 1 = mx
  · have ef := fold_stk (n := n) h (by omega)
    have hf := foldF_stk h (by omega)
    have hfl := foldF_len (st := e :: r)
    have hl8 : (foldF (e :: r)).length ≤ mx := by rw [hfl]; split <;> simp at * <;> omega
    have := hn _ hf (fun h => by rw [h] at hfl; split at hfl <;> simp at * <;> omega) hl8
    rw [stkD_cons] at ef ⊢
    rcases hq : foldF (e :: r) with _ | ⟨f, q⟩
    · rw [hq] at hfl
      split at hfl <;> simp at * <;> omega
    · rw [hq, stkD_cons] at ef this
      simp only [List.map_reverse] at ef this
      rcases h5 with h5 | h5
      · simp [d_law_program_b1, h5, ef]
        exact this
      · have h6 : (r.length : Int) + 1 = mx := h3.resolve_left h5
        simp [d_law_program_b1, h1, h2, h5, h6, ef]
        exact this
  · have h5 : ¬ d % 6 = 5 := fun h => h3 (.inl h)
    have h6 : ¬ (r.length : Int) + 1 = mx := fun h => h3 (.inr h)
    have hz2 : r.length + 1 < sizeLine := sz1 (by omega)
    have h7 : (e :: r).length ≤ 7 := by rw [List.length_cons]; omega
    have m1 := stk_mono (Nat.le_succ c) h
    by_cases h4 : d % 6 = 3
    · have p1 := hn _ (stk_open (m := d / 6 % 4) m1 (.inl rfl) (by omega) h7) (by simp) (by simp; omega)
      have p2 := hn _ (stk_open (m := d / 120 % 100) m1 (.inl rfl) (by omega) h7) (by simp) (by simp; omega)
      rw [stkD_open, List.reverse_cons, List.map_append] at p1 p2
      have er : e.d = .tup [e.h, .box true .lst (e.b.map (St.d false))] := rfl
      rw [stkD_cons]
      by_cases h9 : d / 24 % 5 = 1
      · simp [d_law_program_b1, h4, h6, h9, hz2]
        simpa [er, Ent.h] using p2
      · simp [d_law_program_b1, h4, h6, h9, hz2]
        simpa [er, Ent.h] using p1
    · have p1 := hn _ (stk_open (m := 0) m1 (.inr rfl) (by omega) h7) (by simp) (by simp; omega)
      rw [stkD_open, List.reverse_cons, List.map_append] at p1
      have er : e.d = .tup [e.h, .box true .lst (e.b.map (St.d false))] := rfl
      rw [stkD_cons]
      simp [d_law_program_b1, h1, h2, h4, h5, h6, hz2]
      simpa [er, Ent.h] using p1
theorem wh_go {c : List D → Res D} {b : List D → Out} {k : Nat} {δ δ2 : List D} (h : c δ = .ok (.bl true)) (h2 : b δ = .nx δ2) : whGo c b (k + 1) δ = whGo c b k δ2 := by
  rw [whGo, h]
  simp only [h2]
theorem wh_end {c : List D → Res D} {b : List D → Out} {k : Nat} {δ : List D} (h : c δ = .ok (.bl false)) : whGo c b (k + 1) δ = .nx δ := by
  rw [whGo, h]
theorem stk_close {n : Nat} {R : List Nat → Bool} {x w mx : D} : ∀ (k c : Nat) {st : List Ent}, stk R c st → st.length = k + 1 → c + k ≤ 100 → ∀ {f : Nat}, k < f → ∃ e, stk R (c + k) [e] ∧ whGo (ev (tx.run (n + 9)) tx.gl d_law_program_w1) (exec (tx.run (n + 9)) tx.gl tx.ex d_law_program_b2) f [x, w, mx, stkD st, .dead, .dead] = .nx [x, w, mx, stkD [e], .dead, .dead] := by
  intro k
  induction k with
  | zero =>
    intro c st h hl hc f hf
    rcases st with _ | ⟨e, _ | ⟨e0, r⟩⟩
    · cases hl
    · refine ⟨e, h, ?_⟩
      obtain ⟨f, rfl⟩ : ∃ g, f = g + 1 := ⟨f - 1, by omega⟩
      refine wh_end ?_
      simp [d_law_program_w1, stkD]
    · simp at hl
  | succ k ih =>
    intro c st h hl hc f hf
    obtain ⟨f, rfl⟩ : ∃ g, f = g + 1 := ⟨f - 1, by omega⟩
    have ef := fold_stk (n := n) h (by omega)
    have hfl := foldF_len (st := st)
    rw [hl, if_pos (by omega)] at hfl
    obtain ⟨e, he, hw⟩ := ih (c + 1) (foldF_stk h (by omega)) (by omega) (by omega) (f := f) (by omega)
    refine ⟨e, by rw [show c + (k + 1) = c + 1 + k by omega]; exact he, ?_⟩
    refine (wh_go ?_ ?_).trans hw
    · have : (1 : Int) < (st.length : Int) := by omega
      simp [d_law_program_w1, stkD, this]
    · rcases st with _ | ⟨e1, r⟩
      · cases hl
      rw [stkD_cons] at ef ⊢
      rcases hq : foldF (e1 :: r) with _ | ⟨f, q⟩
      · rw [hq] at hfl
        simp at hfl
      · rw [hq, stkD_cons] at ef
        rw [stkD_cons]
        simp only [List.map_reverse] at ef
        simp [d_law_program_b2, ef]
theorem law_program_ok {n mx : Nat} {R : List Nat → Bool} {ds : List Int} {w : Int} (hw : 0 ≤ w ∧ w ≤ 1000) (hl : ds.length ≤ 90) (hmx : 1 ≤ mx ∧ mx ≤ 8) (hT : ∀ ts : List T, ts.length = w.toNat → R (0 :: ts.map T.c) = true) (hA : ∀ t : T, R [1, t.c] = true) :
    ∃ p : List St, goD (tx.run (n + 9)) tx.gl tx.ex d_law_program [.box false .lst (ds.map .int), .int w, .int mx] = .ok (.box false .lst (p.map (St.d false))) ∧ St.oks 100 R p = true ∧ p.length ≤ 100 ∧ St.deps p ≤ 7 := by
  have : Yld (goD (tx.run (n + 9)) tx.gl tx.ex d_law_program [.box false .lst (ds.map .int), .int w, .int mx]) (fun d => ∃ p : List St, d = .box false .lst (p.map (St.d false)) ∧ St.oks 100 R p = true ∧ p.length ≤ 100 ∧ St.deps p ≤ 7) := by
    refine goD_yld rfl ?_
    have hs0 : stk R 0 [⟨0, 0, []⟩] := ⟨⟨by rw [St.oks], Nat.zero_le _, by show (0 : Int) ≤ 0; omega, by show (0 : Int) ≤ 99; omega⟩, by rw [St.deps]; exact Nat.zero_le _, .inl rfl, trivial⟩
    simp [d_law_program]
    refine wo_ix (fun i _ δ => ∃ st, stk R i st ∧ st ≠ [] ∧ st.length ≤ mx ∧ δ = [.box false .lst (ds.map .int), .int w, .int mx, stkD st, .dead, .dead]) ⟨[⟨0, 0, []⟩], hs0, by simp, by simpa using hmx.1, by simp [stkD, Ent.d, Ent.h]⟩ (fun i d δ Pn ed hR hn => ?_) (fun δ hR => ?_)
    · obtain ⟨st, h1, h2, h3, rfl⟩ := hR
      have hi := (List.getElem?_eq_some_iff.mp ed).1
      refine ⟨_, bind_nm (by simp), ?_⟩
      exact stk_turn h1 h2 h3 hmx.2 (by omega) hw hT hA (y := .dead) fun st' q1 q2 q3 => hn _ ⟨st', q1, q2, q3, rfl⟩
    · obtain ⟨st, h1, h2, h3, rfl⟩ := hR
      obtain ⟨k, hk⟩ : ∃ k, st.length = k + 1 := ⟨st.length - 1, by have := List.length_pos_iff.mpr h2; omega⟩
      obtain ⟨e, he, hwh⟩ := stk_close (n := n) (x := .box false .lst (ds.map .int)) (w := .int w) (mx := .int mx) k ds.length h1 hk (by omega) (f := 100000) (by omega)
      simp [hwh, stkD_cons]
      exact ⟨e.b, rfl, he.1.1, by have := he.1.2.1; omega, by have := he.2.1; simpa using this⟩
  obtain ⟨d, e, p, rfl, q⟩ := this
  exact ⟨p, e, q⟩

/-- the k-th number of the script, or one made up -/
def atS (ns : List Int) (k : Int) : Int := if k < ns.length then (atI ns k).getD 0 else (k * 48271 + 11) * (ns.length + 7) % 1000003
theorem at_ok {n : Nat} {ns : List Int} {k : Int} (h0 : 0 ≤ k) (hk : k < 2 ^ 40) (hn : ns.length ≤ 63) : goD (tx.run n) tx.gl tx.ex d_law_at [.scr ns, .int k] = .ok (.int (atS ns k)) := by
  unfold atS
  by_cases h : k < ns.length
  · obtain ⟨x, e, _⟩ := atI_ok h0 h
    simp [d_law_at, h, e]
  · simp [d_law_at, h]
    rw [mul_int (by omega)]
    simp

theorem law_draws_ok {n : Nat} {ns : List Int} {k : Int} (h0 : 0 ≤ k) (hk : k ≤ 100000) (hn : ns.length ≤ 63) :
    ∃ ds : List Int, goD (tx.run (n + 1)) tx.gl tx.ex d_law_draws [.scr ns, .int k] = .ok (.box true .lst (ds.map .int)) ∧ ds.length ≤ 60 := by
  have e0 := at_ok (n := n) h0 (by omega) hn
  have key : ∀ m : Int, 0 ≤ m → m ≤ 60 → (if atS ns k / 16 % 6 = 1 then 40 + atS ns k / 96 % 20 else atS ns k % 16) = m → goD (tx.run (n + 1)) tx.gl tx.ex d_law_draws [.scr ns, .int k] = .ok (.box true .lst (((List.range m.toNat).map fun i => atS ns (k + 1 + (i : Nat))).map .int)) := fun m h1 h2 em => by
    have hs : smallI m := smallI_of (by omega) (by omega)
    simp [d_law_draws, e0]
    simp only [ite_nx, ite_consD, ite_self, ite_intD]
    rw [em]
    simp [rng1_int hs]
    rw [lc_rng (fun i => D.int (atS ns (k + 1 + (i : Nat)))) (sz (by omega)) fun i hi => by
      have ei := at_ok (n := n) (ns := ns) (k := k + 1 + (i : Nat)) (by omega) (by omega) hn
      exact ⟨_, bind_nm (by simp), by simp, by simp [d_law_draws_e1, wipeD, ei], fun _ => by simp⟩]
    simp [Function.comp_def]
  have hb : 0 ≤ (if atS ns k / 16 % 6 = 1 then 40 + atS ns k / 96 % 20 else atS ns k % 16) ∧ (if atS ns k / 16 % 6 = 1 then 40 + atS ns k / 96 % 20 else atS ns k % 16) ≤ 60 := by split <;> omega
  exact ⟨_, key _ hb.1 hb.2 rfl, by simp; omega⟩

theorem same_loop {n : Nat} (ih : ∀ d : D, d.pl n = true → goD (tx.run n) tx.gl tx.ex d_law_same [d, d] = .ok (.bl true)) {xs : List D} (hx : xs.all (D.pl n) = true) {a b : D} {X : D} (hX : X = .bl true) :
    Wo ((forGo (fun x δ => bindTg (.tp [2, 3]) x δ) (exec (tx.run (n + 1)) tx.gl tx.ex d_law_same_b1) (zipL xs xs) [a, b, .dead, .dead]).thn fun δ => exec (tx.run (n + 1)) tx.gl tx.ex (.seq (.kill 2) (.seq (.kill 3) (.seq (.ret (.bl true)) .skip))) δ) (wF (· = X)) := by
  subst hX
  refine wo_for (fun _ => False) (fun _ δ => δ = [a, b, .dead, .dead]) rfl (fun i x δ e p => ?_) (fun δ p => ?_) (fun _ z => z.elim)
  · subst p
    unfold zipL at e
    rw [List.getElem?_zipWith] at e
    split at e
    · rename_i y z e1 e2
      rw [e1] at e2
      cases e2
      cases e
      have hy := List.all_eq_true.mp hx y (List.mem_of_getElem? e1)
      have hn := pl_no hy
      refine ⟨_, bind_tp (by simp [hn]), ?_⟩
      have l2 : locD (some y) = .ok y := by
        cases y with
        | dead => cases n <;> cases hy
        | _ => rfl
      simp [d_law_same_b1, hn, l2, ih y hy]
    · cases e
  · subst p
    simp
theorem same_ok : ∀ (n : Nat) (d : D), d.pl n = true → goD (tx.run n) tx.gl tx.ex d_law_same [d, d] = .ok (.bl true)
  | n, .non, _ => by simp [d_law_same]
  | n, .bl b, _ => by cases b <;> simp [d_law_same]
  | n, .int i, _ => by simp [d_law_same]
  | n, .str i, _ => by simp [d_law_same]
  | n + 1, .tup xs, h => by
    have hx : xs.all (D.pl n) = true := h
    refine goD_eq rfl ?_
    simp [d_law_same, pl_nos hx]
    exact same_loop (same_ok n) hx rfl
  | n + 1, .box o .lst xs, h => by
    obtain ⟨h1, hx⟩ := and_t h
    have ho : o = false := by simpa using h1
    subst ho
    refine goD_eq rfl ?_
    simp [d_law_same, pl_nos hx]
    exact same_loop (same_ok n) hx rfl
  | 0, .tup _, h => by cases h
  | 0, .box _ k _, h => by cases k <;> cases h
  | _ + 1, .box _ (.dk _) _, h => by cases h
  | _ + 1, .box _ (.dt _) _, h => by cases h
  | _ + 1, .box _ (.ob _ _) _, h => by cases h
  | 0, .dead, h => by cases h
  | _ + 1, .dead, h => by cases h
  | 0, .scr _, h => by cases h
  | _ + 1, .scr _, h => by cases h
  | 0, .ctup _, h => by cases h
  | _ + 1, .ctup _, h => by cases h
  | 0, .exv _ _, h => by cases h
  | _ + 1, .exv _ _, h => by cases h
/-- alike things are the same -/
theorem same_eq {n : Nat} {d e : D} (h : d = e) (p : e.pl n = true) : goD (tx.run n) tx.gl tx.ex d_law_same [d, e] = .ok (.bl true) := by
  rw [h]
  exact same_ok n e p

def letB (c : Nat) : Prop := 97 ≤ c ∧ c ≤ 122
theorem abc_at {i : Int} (h0 : 0 ≤ i) (h : i < 26) : ixD (.str "abcdefghijklmnopqrstuvwxyz") (.int i) = .ok (letD (97 + i.toNat)) := by
  obtain ⟨k, rfl⟩ := Int.eq_ofNat_of_zero_le h0
  refine ix_strAt (sz (show 26 ≤ 1000000 by omega)) ?_
  rw [atN]
  have : ∀ k : _root_.Fin 26, ("abcdefghijklmnopqrstuvwxyz" : Str).cps.toList[k.val]? = some (97 + k.val) := by decide +kernel
  exact this ⟨k, by omega⟩
theorem add_let {xs : List Nat} {y : Nat} (h : xs.length < 1000000) : binD .add (txD xs) (letD y) = .ok (txD (xs ++ [y])) := by
  refine (add_str (x := ⟨xs.toArray⟩) (y := ⟨#[y]⟩) ?_).trans ?_
  · rw [sizeLine_eq]
    show xs.toArray.size + 1 ≤ _
    simp
    omega
  · have : (⟨xs.toArray⟩ : Str) ++ (⟨#[y]⟩ : Str) = ⟨(xs ++ [y]).toArray⟩ := str_ext (by
      show (xs.toArray ++ #[y]).toList = _
      simp)
    rw [this]
    rfl
theorem abc_mod {i : Int} : ixD (.str "abcdefghijklmnopqrstuvwxyz") (.int (i % 26)) = .ok (letD (97 + (i % 26).toNat)) := abc_at (by omega) (by omega)
theorem add_let0 {y : Nat} : binD .add (.str "") (letD y) = .ok (txD [y]) := add_let (xs := []) (by simp)
theorem letB_mod (i : Int) : letB (97 + (i % 26).toNat) := by
  show 97 ≤ 97 + _ ∧ 97 + _ ≤ 122
  omega
theorem holes_ok {n : Nat} {c : Int} : ∃ a b d e : Nat, goD (tx.run (n + 1)) tx.gl tx.ex d_law_holes [.int c] = .ok (txD [a, b, d, e]) ∧ letB a ∧ letB b ∧ letB d ∧ letB e := by
  have hc : 0 ≤ c % 5 ∧ c % 5 < 5 := by omega
  obtain ⟨sz, es, _, hsz⟩ := atI_ok (xs := [D.int 1, .int 2, .int 3, .int 4, .int 26]) hc.1 (by simp; omega)
  have hsz : ∃ k : Int, sz = .int k ∧ 0 < k := by
    have hm := List.mem_of_getElem? hsz
    simp at hm
    rcases hm with rfl | rfl | rfl | rfl | rfl <;> exact ⟨_, rfl, by omega⟩
  obtain ⟨k, rfl, k1⟩ := hsz
  obtain ⟨xs, er, hl, hx⟩ := row_ok (n := n) (c := c / 5) (m := 5) (b := 26) (by omega) (by omega) (by omega) (by omega)
  have h5 : (5 : Nat) ≤ sizeLine := by rw [sizeLine_eq]; omega
  match xs, hl with
  | [x0, x1, x2, x3, x4], _ =>
    refine ⟨_, _, _, _, goD_eq rfl ?_, letB_mod (x4 + x0 % k * 7), letB_mod (x4 + x1 % k * 7), letB_mod (x4 + x2 % k * 7), letB_mod (x4 + x3 % k * 7)⟩
    simp [d_law_holes, es, er, h5, cutL_take, forGo, d_law_holes_b1, k1, abc_mod, add_let0, add_let]

/-- its letters are letters -/
def _root_.PX.Cd.ok (c : Cd) : Prop := letB c.h0 ∧ letB c.h1 ∧ letB c.h2 ∧ letB c.h3
theorem sz_at {i : Int} : ixD (.str "SZ") (.int (i % 2)) = .ok (layD (decide (i % 2 = 0))) := by
  rcases (show i % 2 = 0 ∨ i % 2 = 1 from by omega) with e | e <;> rw [e] <;> exact ix_strAt (sz (show 2 ≤ 1000000 by omega)) (by decide +kernel)
theorem card_ok {n : Nat} {c : Int} : ∃ d : Cd, goD (tx.run (n + 2)) tx.gl tx.ex d_law_card [.int c] = .ok d.d ∧ d.ok := by
  obtain ⟨x, y, z, w, e, ok⟩ := holes_ok (n := n) (c := c / 8)
  have h3 : (3 : Nat) ≤ sizeLine := by rw [sizeLine_eq]; omega
  refine ⟨⟨decide (c % 2 = 0), x, y, z, w, Fin.ofNat 4 (c / 2 % 4).toNat⟩, ?_, ok⟩
  have hf : ((Fin.ofNat 4 (c / 2 % 4).toNat).val : Int) = c / 2 % 4 := by
    show (((c / 2 % 4).toNat % 4 : Nat) : Int) = _
    omega
  simp only [Cd.d, Cd.hs, hf]
  simp [d_law_card, e, sz_at, h3]

theorem draft_ok {n : Nat} {ns : List Int} {a w : Int} (hn : ns.length ≤ 63) (ha : 0 ≤ a ∧ a ≤ 1000000) (h0 : 0 ≤ w) (hw : w ≤ 1000) :
    ∃ cs : List Cd, goD (tx.run (n + 3)) tx.gl tx.ex d_law_draft [.scr ns, .int a, .int w] = .ok (.box true .lst (cs.map Cd.d)) ∧ cs.length = w.toNat ∧ ∀ c ∈ cs, c.ok := by
  have hm1 : smallI w := smallI_of (by omega) (by omega)
  obtain ⟨f, hf⟩ := Classical.axiomOfChoice fun c : Int => card_ok (n := n) (c := c)
  refine ⟨(List.range w.toNat).map fun (k : Nat) => f (atS ns (a + k)), ?_, by simp, fun c hc => ?_⟩
  · simp [d_law_draft, rng1_int hm1]
    rw [lc_rng (fun i => (f (atS ns (a + i))).d) (sz (by omega)) fun i hi => ⟨_, bind_nm (by simp), rfl, by simp [d_law_draft_e1, wipeD, at_ok (ns := ns) (k := a + i) (by omega) (by omega) hn, (hf _).1], fun _ => by simp⟩]
    simp
  · obtain ⟨k, _, rfl⟩ := List.mem_map.mp hc
    exact (hf _).2

def _root_.PX.T.opp : T → T
  | .f => .b | .b => .f | .i => .i
@[simp] theorem opp_opp {t : T} : t.opp.opp = t := by cases t <;> rfl

@[simp] theorem opposite_turn_eq {n : Nat} {t : T} : goD (tx.run n) tx.gl tx.ex d_opposite_turn [t.d] = .ok t.opp.d := by
  cases t <;> simp [d_opposite_turn] <;> rfl
theorem opposite_eq {n : Nat} {ts : List T} (hl : ts.length ≤ 1000000) : goD (tx.run (n + 1)) tx.gl tx.ex d_opposite [tsD ts] = .ok (tsD (ts.map T.opp)) := by
  simp [d_opposite]
  rw [lc_map (fun t : T => t.opp.d) (sz hl) fun t ht => ⟨_, bind_nm (by simp), rfl, by simp [d_opposite_e1, wipeD], fun z => by cases z⟩]
  have e : (ts.map fun t => t.opp.d) = (ts.map T.opp).map T.d := by simp [Function.comp_def]
  rw [e]
  simp only [bind_ok]
  rw [join_ts (by simpa using hl)]
  simp

def oppR (rs : List (List T)) : List (List T) := rs.reverse.map (List.map T.opp)
theorem oppR_len {rs : List (List T)} : (oppR rs).length = rs.length := by simp [oppR]
theorem oppR_oppR {rs : List (List T)} : oppR (oppR rs) = rs := by
  simp [oppR, Function.comp_def]
theorem oppR_row {rs : List (List T)} {w : Nat} (h : ∀ r ∈ rs, r.length = w) : ∀ r ∈ oppR rs, r.length = w := fun r hr => by
  simp [oppR] at hr
  obtain ⟨q, hq, rfl⟩ := hr
  simpa using h q hq
theorem opposed_eq {n : Nat} {rs : List (List T)} (hr : rs.length ≤ 1000000) (h : ∀ r ∈ rs, r.length ≤ 1000000) : goD (tx.run (n + 2)) tx.gl tx.ex d_opposed [.box false .lst (rs.map tsD)] = .ok (.box true .lst ((oppR rs).map tsD)) := by
  simp [d_opposed, ← List.map_reverse]
  rw [lc_map (fun r : List T => tsD (r.map T.opp)) (sz (by simpa using hr)) fun r hr2 => ⟨_, bind_nm (by simp), rfl, by simp [d_opposed_e1, wipeD, opposite_eq (h r (by simpa using hr2))], fun z => by cases z⟩]
  simp [oppR, Function.comp_def]

def isT (x : Nat) : Bool := x == 102 || x == 98 || x == 105
def toTn (x : Nat) : T := if x = 102 then .f else if x = 98 then .b else .i
theorem toTn_c {x : Nat} (h : isT x = true) : (toTn x).c = x := by
  unfold isT at h
  simp at h
  rcases h with (rfl | rfl) | rfl <;> rfl
@[simp] theorem isT_c {t : T} : isT t.c = true := by cases t <;> rfl
theorem toTn_map {t : List Nat} (h : t.all isT = true) : (t.map toTn).map T.c = t := by
  rw [List.map_map]
  have := List.all_eq_true.mp h
  exact (List.map_congr_left fun x hx => toTn_c (this x hx)).trans (List.map_id t)
/-- rows of w turns -/
def Rw (w : Nat) : List Nat → Bool
  | 0 :: t => t.length == w && t.all isT
  | 1 :: t => t.all isT
  | _ => false
theorem Rw_row {w : Nat} {ts : List T} (h : ts.length = w) : Rw w (0 :: ts.map T.c) = true := by
  simp [Rw, h]
theorem Rw_all {w : Nat} {t : T} : Rw w [1, t.c] = true := by
  simp [Rw]
mutual
def St.lay (w : Nat) : St → List (List T)
  | .row t => [t.map toTn]
  | .all x => [List.replicate w (toTn x)]
  | .times n b => repL (St.lays w b) n.toNat
  | .mirror b => St.lays w b ++ oppR (St.lays w b)
def St.lays (w : Nat) : List St → List (List T)
  | [] => []
  | s :: r => s.lay w ++ St.lays w r
end
theorem St.lays_app {w : Nat} {p q : List St} : St.lays w (p ++ q) = St.lays w p ++ St.lays w q := by
  induction p with
  | nil => rw [List.nil_append, St.lays, List.nil_append]
  | cons s r ih => rw [List.cons_append, St.lays, St.lays, ih, List.append_assoc]
theorem repL_len {α : Type} {xs : List α} : ∀ {n : Nat}, (repL xs n).length = n * xs.length
  | 0 => by simp [repL]
  | n + 1 => by
    have := repL_len (xs := xs) (n := n)
    unfold repL at this ⊢
    rw [List.replicate_succ, List.flatten_cons, List.length_append, this, Nat.succ_mul]
    omega
theorem repL_mem {α : Type} {xs : List α} {n : Nat} {x : α} (h : x ∈ repL xs n) : x ∈ xs := by
  unfold repL at h
  obtain ⟨l, hl, hx⟩ := List.mem_flatten.mp h
  rw [(List.mem_replicate.mp hl).2] at hx
  exact hx
theorem repL_map {α β : Type} {f : α → β} {xs : List α} {n : Nat} : (repL xs n).map f = repL (xs.map f) n := by
  unfold repL
  rw [List.map_flatten, List.map_replicate]
theorem St.lay_len {w B : Nat} : ∀ (k : Nat) (s : St), s.dep ≤ k → s.ok B (Rw w) = true → (((s.lay w).length : Int) = s.tal ∧ ∀ r ∈ s.lay w, r.length = w) := by
  intro k
  induction k with
  | zero =>
    intro s hd ho
    cases s with
    | row t =>
      rw [St.ok] at ho
      simp [Rw] at ho
      simp [St.lay, St.tal, ho.1]
    | all x => simp [St.lay, St.tal]
    | times n b => rw [St.dep] at hd; omega
    | mirror b => rw [St.dep] at hd; omega
  | succ k ih =>
    have ihs : ∀ p : List St, St.deps p ≤ k → St.oks B (Rw w) p = true → (((St.lays w p).length : Int) = St.tals p ∧ ∀ r ∈ St.lays w p, r.length = w) := by
      intro p
      induction p with
      | nil => intro _ _; simp [St.lays, St.tals]
      | cons s r ihr =>
        intro hd ho
        rw [St.deps] at hd
        rw [St.oks] at ho
        obtain ⟨h1, h2⟩ := and_t ho
        obtain ⟨a1, a2⟩ := ih s (by omega) h1
        obtain ⟨b1, b2⟩ := ihr (by omega) h2
        rw [St.lays, St.tals]
        refine ⟨by rw [List.length_append]; omega, fun r hr => ?_⟩
        rcases List.mem_append.mp hr with h | h
        · exact a2 r h
        · exact b2 r h
    intro s hd ho
    cases s with
    | row t =>
      rw [St.ok] at ho
      simp [Rw] at ho
      simp [St.lay, St.tal, ho.1]
    | all x => simp [St.lay, St.tal]
    | times n b =>
      rw [St.dep] at hd
      rw [St.ok] at ho
      obtain ⟨h1, h2⟩ := and_t ho
      have h1 := of_decide_eq_true h1
      obtain ⟨a1, a2⟩ := ihs b (by omega) (and_t h2).2
      rw [St.lay, St.tal]
      refine ⟨?_, fun r hr => a2 r (repL_mem hr)⟩
      rw [repL_len, ← a1, Int.natCast_mul, Int.toNat_of_nonneg h1.1]
    | mirror b =>
      rw [St.dep] at hd
      rw [St.ok] at ho
      obtain ⟨a1, a2⟩ := ihs b (by omega) (and_t ho).2
      rw [St.lay, St.tal]
      refine ⟨by rw [List.length_append, oppR_len]; omega, fun r hr => ?_⟩
      rcases List.mem_append.mp hr with h | h
      · exact a2 r h
      · exact oppR_row a2 r h
theorem St.lays_len {w B : Nat} : ∀ {p : List St}, St.oks B (Rw w) p = true → (((St.lays w p).length : Int) = St.tals p ∧ ∀ r ∈ St.lays w p, r.length = w)
  | [], _ => by simp [St.lays, St.tals]
  | s :: r, ho => by
    rw [St.oks] at ho
    obtain ⟨h1, h2⟩ := and_t ho
    obtain ⟨a1, a2⟩ := St.lay_len _ s (Nat.le_refl _) h1
    obtain ⟨b1, b2⟩ := St.lays_len h2
    rw [St.lays, St.tals]
    refine ⟨by rw [List.length_append]; omega, fun r hr => ?_⟩
    rcases List.mem_append.mp hr with h | h
    · exact a2 r h
    · exact b2 r h

theorem nos_ts {rs : List (List T)} : D.nos (rs.map tsD) = true := nos_mapF fun _ => by simp
theorem mul_lstN {o : Bool} {xs : List D} {n : Int} (h : 0 ≤ n ∧ n ≤ 99) (hl : xs.length * n.toNat ≤ 1000000) (hn : D.nos xs = true) : binD .mul (.box o .lst xs) (.int n) = .ok (.box true .lst (repL xs n.toNat)) := by
  have h1 : -(2 ^ 62) ≤ n := by omega
  have h2 : n < 2 ^ 62 := by omega
  exact if_pos ⟨h1, h2, sz hl, hn⟩
theorem mul_let {m : Int} {t : T} (h0 : 0 ≤ m) (hm : m ≤ 1000) : binD .mul t.d (.int m) = .ok (tsD (List.replicate m.toNat t)) := by
  refine (if_pos ⟨h0, by omega, ?_, by show 1 ≤ _; omega⟩ : binD .mul (.str ⟨#[t.c]⟩) (.int m) = .ok (.str (repS ⟨#[t.c]⟩ m))).trans ?_
  · have : repS ⟨#[t.c]⟩ m = ⟨((List.replicate m.toNat t).map T.c).toArray⟩ := str_ext (by
      rw [repS_char h0]
      simp)
    rw [this]
    rfl
  · rw [sizeLine_eq]
    show 1 * m.toNat ≤ _
    omega
theorem mul_all {x : Nat} {w : Nat} (hw : w ≤ 1000) (hx : isT x = true) : binD .mul (letD x) (.int w) = .ok (tsD (List.replicate w (toTn x))) := by
  have := mul_let (m := (w : Int)) (t := toTn x) (by omega) (by omega)
  rw [show T.d (toTn x) = letD x from by unfold T.d letD; rw [toTn_c hx]] at this
  exact this
theorem txD_ts {t : List Nat} (h : t.all isT = true) : txD t = tsD (t.map toTn) := by
  unfold txD tsD
  rw [toTn_map h]
theorem tals_small {B : Nat} {R : List Nat → Bool} {m : Int} {b : List St} (ho : St.oks B R b = true) (h : m * St.tals b ≤ 240) (hm : 0 < m) : St.tals b ≤ 240 := by
  have h0 := St.tals_nn ho
  have : 1 * St.tals b ≤ m * St.tals b := Int.mul_le_mul_of_nonneg_right (by omega) h0
  omega
theorem tal_nn {B : Nat} {R : List Nat → Bool} {s : St} (h : s.ok B R = true) : 0 ≤ s.tal := by
  have := St.tals_nn (p := [s]) (B := B) (R := R) (by rw [St.oks, h, St.oks]; rfl)
  simpa [St.tals] using this
theorem spread_of {n k w B : Nat} (h1 : ∀ s : St, s.dep ≤ k → s.ok B (Rw w) = true → s.tal ≤ 240 → goD (tx.run n) tx.gl tx.ex d_rows_by [St.d false s, .int w] = .ok (.box true .lst ((s.lay w).map tsD))) {p : List St} (hd : St.deps p ≤ k) (ho : St.oks B (Rw w) p = true) (ht : St.tals p ≤ 240) :
    goD (tx.run (n + 1)) tx.gl tx.ex d_spread [.box false .lst (p.map (St.d false)), .int w] = .ok (.box false .lst ((St.lays w p).map tsD)) := by
  refine goD_eq rfl ?_
  simp [d_spread]
  refine wo_ix (fun i _ δ => δ = [.box false .lst (p.map (St.d false)), .int w, .box false .lst ((St.lays w (p.take i)).map tsD), .dead]) (by simp [St.lays]) (fun i s δ Pn es hR hn => ?_) (fun δ hR => ?_)
  · subst hR
    refine ⟨_, bind_nm (by simp), ?_⟩
    have hs := List.mem_of_getElem? es
    have hok := St.oks_mem ho s hs
    have hsp : p = p.take i ++ s :: p.drop (i + 1) := by
      have hi := (List.getElem?_eq_some_iff.mp es)
      obtain ⟨hi, e⟩ := hi
      conv => lhs; rw [← List.take_append_drop i p]
      rw [List.drop_eq_getElem_cons hi, e]
    have hok2 := ho
    rw [hsp, St.oks_app, St.oks] at hok2
    obtain ⟨q1, q2⟩ := and_t hok2
    obtain ⟨q2, q3⟩ := and_t q2
    have ht2 := ht
    rw [hsp, St.tals_app, St.tals] at ht2
    have n1 := St.tals_nn q1
    have n2 := St.tals_nn q3
    have n3 := tal_nn q2
    have e := h1 s (St.deps_le hd s hs) hok (by omega)
    have hl : locD (some (St.d false s)) = .ok (St.d false s) := by cases s <;> simp
    have l1 := (St.lays_len q1).1
    have l2 := (St.lay_len _ s (Nat.le_refl _) hok).1
    have ha : binD .add (.box false .lst ((St.lays w (p.take i)).map tsD)) (.box true .lst ((s.lay w).map tsD)) = .ok (.box true .lst ((St.lays w (p.take i)).map tsD ++ (s.lay w).map tsD)) := add_lst ⟨sz (by rw [List.length_map, List.length_map]; omega), nos_ts, nos_ts⟩
    have et : (St.lays w (p.take (i + 1))).map tsD = (St.lays w (p.take i)).map tsD ++ (s.lay w).map tsD := by
      rw [List.take_add_one, es, St.lays_app, List.map_append]
      simp [St.lays]
    have hn' := hn _ rfl
    rw [et] at hn'
    have n4 := nos_ts (rs := s.lay w)
    have n5 := nos_ts (rs := St.lays w (p.take i))
    generalize (s.lay w).map tsD = X at *
    generalize (St.lays w (p.take i)).map tsD = Y at *
    have hf : D.frzs (Y ++ X) = Y ++ X := D.frzs_nos _ (by rw [nos_app, n4, n5]; rfl)
    simp [d_spread_b1, hl, e, ha, hf]
    exact hn'
  · subst hR
    rw [List.take_length]
    simp
theorem spread_eq {w : Nat} (hw : w ≤ 1000) {B : Nat} : ∀ (k : Nat) {n : Nat} {p : List St}, St.deps p ≤ k → St.oks B (Rw w) p = true → St.tals p ≤ 240 → goD (tx.run (n + 2 * k + 4)) tx.gl tx.ex d_spread [.box false .lst (p.map (St.d false)), .int w] = .ok (.box false .lst ((St.lays w p).map tsD))
  | 0, n, p, hd, ho, ht => spread_of (n := n + 3) (k := 0) (fun s hs ho ht => by
      rw [St.ok.eq_def] at ho
      cases s with
      | row t =>
        simp [Rw] at ho
        simp [d_rows_by, St.lay, txD_ts (List.all_eq_true.mpr ho.2)]
      | all x =>
        simp [Rw] at ho
        simp [d_rows_by, St.lay, mul_all hw ho]
      | times m b => rw [St.dep] at hs; omega
      | mirror b => rw [St.dep] at hs; omega) hd ho ht
  | k + 1, n, p, hd, ho, ht => spread_of (n := n + 2 * (k + 1) + 3) (k := k + 1) (fun s hs ho ht => by
      cases s with
      | row t =>
        rw [St.ok] at ho
        simp [Rw] at ho
        simp [d_rows_by, St.lay, txD_ts (List.all_eq_true.mpr ho.2)]
      | all x =>
        rw [St.ok] at ho
        simp [Rw] at ho
        simp [d_rows_by, St.lay, mul_all hw ho]
      | times m b =>
        rw [St.dep] at hs
        rw [St.ok] at ho
        rw [St.tal] at ht
        obtain ⟨h1, h2⟩ := and_t ho
        have h1 := of_decide_eq_true h1
        by_cases hm : m = 0
        · subst hm
          simp [d_rows_by, St.lay, repL]
        · have ht := tals_small (and_t h2).2 ht (by omega)
          have e := spread_eq hw k (n := n) (p := b) (by omega) (and_t h2).2 ht
          have l := (St.lays_len (and_t h2).2).1
          have em : binD .mul (.box false .lst ((St.lays w b).map tsD)) (.int m) = .ok (.box true .lst ((repL (St.lays w b) m.toNat).map tsD)) := by
            rw [repL_map]
            refine mul_lstN h1 ?_ nos_ts
            rw [List.length_map]
            have := Nat.mul_le_mul (show (St.lays w b).length ≤ 240 by omega) (show m.toNat ≤ 99 by omega)
            omega
          rw [show n + 2 * (k + 1) + 3 = (n + 2 * k + 4) + 1 by omega]
          simp [d_rows_by, St.lay, e, em, hm]
      | mirror b =>
        rw [St.dep] at hs
        rw [St.ok] at ho
        rw [St.tal] at ht
        have hb := (and_t ho).2
        have nn := St.tals_nn hb
        have e := spread_eq hw k (n := n) (p := b) (by omega) hb (by omega)
        obtain ⟨l, l2⟩ := St.lays_len hb
        have eo := opposed_eq (n := n + 2 * k + 2) (rs := St.lays w b) (by omega) fun r hr => by rw [l2 r hr]; omega
        rw [show n + 2 * k + 2 + 2 = n + 2 * k + 4 by omega] at eo
        have ha : binD .add (.box false .lst ((St.lays w b).map tsD)) (.box true .lst ((oppR (St.lays w b)).map tsD)) = .ok (.box true .lst ((St.lays w b).map tsD ++ (oppR (St.lays w b)).map tsD)) := add_lst ⟨sz (by rw [List.length_map, List.length_map, oppR_len]; omega), nos_ts, nos_ts⟩
        have n4 := nos_ts (rs := St.lays w b)
        rw [show n + 2 * (k + 1) + 3 = (n + 2 * k + 4) + 1 by omega, St.lay, List.map_append]
        generalize (oppR (St.lays w b)).map tsD = Y at *
        generalize (St.lays w b).map tsD = X at *
        have n5 := D.frzs_nos _ n4
        simp [d_rows_by, e, eo, ha, n4, n5]) hd ho ht

theorem nin_turns {t : T} : cmpD .nin t.d (.ctup ["f", "b", "i"]) = .ok (.bl false) := by cases t <;> kernel_rfl
theorem fits_eq {n : Nat} {ts : List T} {w : Nat} (h : ts.length = w) (hw : w ≤ 1000) : goD (tx.run n) tx.gl tx.ex d_fits [tsD ts, .int w] = .ok (.bl true) := by
  refine goD_eq rfl ?_
  simp [d_fits, len_ts (ts := ts) (sz (by omega)), h]
  refine wo_ix (fun i _ δ => δ = [tsD ts, .int w, .dead]) rfl (fun i t δ Pn es hR hn => ?_) (fun δ hR => ?_)
  · subst hR
    refine ⟨_, bind_nm (by simp), ?_⟩
    have := nin_turns (t := t)
    simp [d_fits_b1, this]
    exact hn _ rfl
  · subst hR
    simp
theorem look_of {n k w B : Nat} (hw : w ≤ 1000) (ih : ∀ b : List St, St.deps b + 1 ≤ k → St.oks B (Rw w) b = true → ∃ F, tx.run (n + 1) "look_through" = some F ∧ F [.box false .lst (b.map (St.d false)), .int w] = .ok .non) {p : List St} (hd : St.deps p ≤ k) (ho : St.oks B (Rw w) p = true) :
    goD (tx.run (n + 1)) tx.gl tx.ex d_look_through [.box false .lst (p.map (St.d false)), .int w] = .ok .non := by
  refine goD_res rfl ?_
  simp [d_look_through]
  refine wo_ix (fun i _ δ => δ = [.box false .lst (p.map (St.d false)), .int w, .dead]) rfl (fun i s δ Pn es hR hn => ?_) (fun δ hR => ?_)
  · subst hR
    refine ⟨_, bind_nm (by simp), ?_⟩
    have hs := List.mem_of_getElem? es
    have hds := St.deps_le hd s hs
    have hos := St.oks_mem ho s hs
    cases s with
    | row t =>
      rw [St.ok] at hos
      simp [Rw] at hos
      have e := fits_eq (n := n) (ts := t.map toTn) (w := w) (by simpa using hos.1) hw
      simp [d_look_through_b1, txD_ts (List.all_eq_true.mpr hos.2), e]
      exact hn _ rfl
    | all x =>
      simp [d_look_through_b1]
      exact hn _ rfl
    | times m b =>
      rw [St.dep] at hds
      rw [St.ok] at hos
      obtain ⟨h1, h2⟩ := and_t hos
      obtain ⟨F, e1, e2⟩ := ih b hds (and_t h2).2
      simp [d_look_through_b1, e1, e2]
      exact hn _ rfl
    | mirror b =>
      rw [St.dep] at hds
      rw [St.ok] at hos
      obtain ⟨F, e1, e2⟩ := ih b hds (and_t hos).2
      simp [d_look_through_b1, e1, e2]
      exact hn _ rfl
  · subst hR
    simp
theorem look_eq {w B : Nat} (hw : w ≤ 1000) : ∀ (k : Nat) {n : Nat} {p : List St}, St.deps p ≤ k → St.oks B (Rw w) p = true → goD (tx.run (n + k + 1)) tx.gl tx.ex d_look_through [.box false .lst (p.map (St.d false)), .int w] = .ok .non
  | 0, n, p, hd, ho => look_of (k := 0) hw (fun b hb => by omega) hd ho
  | k + 1, n, p, hd, ho => look_of (n := n + (k + 1)) (k := k + 1) hw (fun b hb hob => ⟨_, run_look_through (n := n + k + 1), look_eq hw k (by omega) hob⟩) hd ho

theorem fib_at {t : T} : ixD (.str "fib") (.int (t.v + 1)) = .ok t.opp.d := by cases t <;> exact ix_strAt (sz (show 3 ≤ 1000000 by omega)) (by decide +kernel)
theorem law_back_eq {n : Nat} {ts : List T} (hl : ts.length ≤ 1000000) : goD (tx.run n) tx.gl tx.ex d_law_back [tsD ts] = .ok (tsD (ts.map T.opp)) := by
  simp [d_law_back]
  rw [lc_map (fun t : T => t.opp.d) (sz hl) fun t ht => ⟨_, bind_nm (by simp), rfl, by simp [d_law_back_e1, wipeD, bif_ix, fib_at], fun _ => by simp⟩]
  have e : (ts.map fun t => t.opp.d) = (ts.map T.opp).map T.d := by simp [Function.comp_def]
  rw [e]
  simp only [bind_ok]
  rw [join_ts (by simpa using hl)]
  simp

theorem lay_of {n k w B : Nat} (hw : w ≤ 1000) (ih : ∀ b : List St, St.deps b + 1 ≤ k → St.oks B (Rw w) b = true → St.tals b ≤ 240 → ∃ F, tx.run (n + 1) "_law_lay" = some F ∧ F [.box false .lst (b.map (St.d false)), .int w] = .ok (.box true .lst ((St.lays w b).map tsD))) {p : List St} (hd : St.deps p ≤ k) (ho : St.oks B (Rw w) p = true) (ht : St.tals p ≤ 240) :
    goD (tx.run (n + 1)) tx.gl tx.ex d_law_lay [.box false .lst (p.map (St.d false)), .int w] = .ok (.box true .lst ((St.lays w p).map tsD)) := by
  refine goD_eq rfl ?_
  simp [d_law_lay]
  refine wo_ix (fun i _ δ => δ = [.box false .lst (p.map (St.d false)), .int w, .box true .lst ((St.lays w (p.take i)).map tsD), .dead, .dead, .dead]) (by simp [St.lays]) (fun i s δ Pn es hR hn => ?_) (fun δ hR => ?_)
  · subst hR
    refine ⟨_, bind_nm (by simp), ?_⟩
    have hs := List.mem_of_getElem? es
    have hds := St.deps_le hd s hs
    have hok := St.oks_mem ho s hs
    have hsp : p = p.take i ++ s :: p.drop (i + 1) := by
      obtain ⟨hi, e⟩ := List.getElem?_eq_some_iff.mp es
      conv => lhs; rw [← List.take_append_drop i p]
      rw [List.drop_eq_getElem_cons hi, e]
    have hok2 := ho
    rw [hsp, St.oks_app, St.oks] at hok2
    obtain ⟨q1, q2⟩ := and_t hok2
    obtain ⟨q2, q3⟩ := and_t q2
    have ht2 := ht
    rw [hsp, St.tals_app, St.tals] at ht2
    have n1 := St.tals_nn q1
    have n2 := St.tals_nn q3
    have n3 := tal_nn q2
    have l1 := (St.lays_len q1).1
    have l2 := (St.lay_len _ s (Nat.le_refl _) hok).1
    have hts : s.tal ≤ 240 := by omega
    have hz : (St.lays w (p.take i)).length < sizeLine := sz1 (by omega)
    have ha : ∀ o : Bool, binD .add (.box o .lst ((St.lays w (p.take i)).map tsD)) (.box true .lst ((s.lay w).map tsD)) = .ok (.box true .lst ((St.lays w (p.take i)).map tsD ++ (s.lay w).map tsD)) := fun o => add_lst ⟨sz (by rw [List.length_map, List.length_map]; omega), nos_ts, nos_ts⟩
    have et : (St.lays w (p.take (i + 1))).map tsD = (St.lays w (p.take i)).map tsD ++ (s.lay w).map tsD := by
      rw [List.take_add_one, es, St.lays_app, List.map_append]
      simp [St.lays]
    have hn' := hn _ rfl
    rw [et] at hn'
    have n5 := nos_ts (rs := St.lays w (p.take i))
    have n6 := D.frzs_nos _ n5
    have hY : ((St.lays w (p.take i)).map tsD).length ≤ 240 := by rw [List.length_map]; omega
    have hz' : ((St.lays w (p.take i)).map tsD).length < sizeLine := by rw [List.length_map]; exact hz
    clear hsp ht2 q1 q2 q3 n1 n2 l1 et hn hz
    generalize (St.lays w (p.take i)).map tsD = Y at *
    cases s with
    | row t =>
      rw [St.ok] at hok
      simp [Rw] at hok
      simp [d_law_lay_b1, txD_ts (List.all_eq_true.mpr hok.2), hz']
      simpa [St.lay] using hn'
    | all x =>
      rw [St.ok] at hok
      simp [Rw] at hok
      simp [d_law_lay_b1, mul_all hw hok, hz']
      simpa [St.lay] using hn'
    | times m b =>
      rw [St.dep] at hds
      rw [St.ok] at hok
      rw [St.tal] at hts
      obtain ⟨h1, h2⟩ := and_t hok
      have h1 := of_decide_eq_true h1
      by_cases hm : m = 0
      · subst hm
        simp [d_law_lay_b1]
        simpa [St.lay, repL] using hn'
      · have hm0 : 0 < m := by omega
        have hts := tals_small (and_t h2).2 hts hm0
        obtain ⟨F, e1, e2⟩ := ih b hds (and_t h2).2 hts
        have l := (St.lays_len (and_t h2).2).1
        have em : binD .mul (.box true .lst ((St.lays w b).map tsD)) (.int m) = .ok (.box true .lst ((repL (St.lays w b) m.toNat).map tsD)) := by
          rw [repL_map]
          refine mul_lstN h1 ?_ nos_ts
          rw [List.length_map]
          have := Nat.mul_le_mul (show (St.lays w b).length ≤ 240 by omega) (show m.toNat ≤ 99 by omega)
          omega
        rw [St.lay] at ha hn'
        simp [d_law_lay_b1, e1, e2, em, hm0, ha]
        exact hn'
    | mirror b =>
      rw [St.dep] at hds
      rw [St.ok] at hok
      rw [St.tal] at hts
      have hb := (and_t hok).2
      have nn := St.tals_nn hb
      obtain ⟨F, e1, e2⟩ := ih b hds hb (by omega)
      obtain ⟨l, l2⟩ := St.lays_len hb
      have n7 := nos_ts (rs := St.lays w b)
      have n8 := D.frzs_nos _ n7
      have hlc : ∀ δ : List D, δ.length = 6 → lcGo (fun x => bindTg (.nm 5) x (wipeD δ [5])) (ev (tx.run (n + 1)) tx.gl (.bl true)) (ev (tx.run (n + 1)) tx.gl d_law_lay_e1) d_law_lay_e1.view ((St.lays w b).map tsD).reverse [] = .ok ((oppR (St.lays w b)).map tsD) := fun δ hdl => by
        rw [← List.map_reverse, lc_map (fun r : List T => tsD (r.map T.opp)) (sz (by simp; omega)) fun r hr => ⟨_, bind_nm (by simp [wipeD, hdl]), rfl, by
          have := l2 r (List.mem_reverse.mp hr)
          simp [d_law_lay_e1, wipeD, hdl, law_back_eq (n := n) (ts := r) (by omega)], fun _ => by simp⟩]
        simp [oppR, Function.comp_def]
      have a1 : binD .add (.box true .lst Y) (.box false .lst ((St.lays w b).map tsD)) = .ok (.box true .lst (Y ++ (St.lays w b).map tsD)) := add_lst ⟨sz (by rw [List.length_map]; omega), n5, n7⟩
      have a2 : binD .add (.box true .lst (Y ++ (St.lays w b).map tsD)) (.box true .lst ((oppR (St.lays w b)).map tsD)) = .ok (.box true .lst (Y ++ ((St.lays w b).map tsD ++ (oppR (St.lays w b)).map tsD))) := List.append_assoc .. ▸ add_lst ⟨sz (by rw [List.length_append, List.length_map, List.length_map, oppR_len]; omega), by rw [nos_app, n5, n7]; rfl, nos_ts⟩
      rw [St.lay, List.map_append] at hn'
      generalize (oppR (St.lays w b)).map tsD = Z at *
      generalize (St.lays w b).map tsD = X at *
      have hrv : rvD (.box false .lst X) = .ok (.box true .lst X.reverse) := if_pos n7
      have n9 : D.nos X.reverse = true := nos_rev n7
      simp [d_law_lay_b1, e1, e2, a1, n7, n8, hrv, n9, hlc, a2]
      exact hn'
  · subst hR
    rw [List.take_length]
    simp
theorem law_lay_eq {w B : Nat} (hw : w ≤ 1000) : ∀ (k : Nat) {n : Nat} {p : List St}, St.deps p ≤ k → St.oks B (Rw w) p = true → St.tals p ≤ 240 → goD (tx.run (n + k + 1)) tx.gl tx.ex d_law_lay [.box false .lst (p.map (St.d false)), .int w] = .ok (.box true .lst ((St.lays w p).map tsD))
  | 0, n, p, hd, ho, ht => lay_of (k := 0) hw (fun b hb => by omega) hd ho ht
  | k + 1, n, p, hd, ho, ht => lay_of (n := n + (k + 1)) (k := k + 1) hw (fun b hb hob ht => ⟨_, run_law_lay (n := n + k + 1), law_lay_eq hw k (by omega) hob ht⟩) hd ho ht

/-- row k of columns -/
def rowC (cols : List (List T)) (k : Nat) : List T := cols.map fun c => c.getD k .i
def rowsC (cols : List (List T)) (m : Nat) : List (List T) := (List.range m).map (rowC cols)
theorem rowC_len {cols : List (List T)} {k : Nat} : (rowC cols k).length = cols.length := by simp [rowC]
theorem rowsC_len {cols : List (List T)} {m : Nat} : (rowsC cols m).length = m := by simp [rowsC]
theorem rowsC_row {cols : List (List T)} {m : Nat} {r : List T} (h : r ∈ rowsC cols m) : r.length = cols.length := by
  obtain ⟨k, _, rfl⟩ := List.mem_map.mp h
  exact rowC_len
theorem ix_tsN {ts : List T} {k : Nat} (h : k < ts.length) (h2 : ts.length ≤ 1000000) : ixD (tsD ts) (.int k) = .ok (ts.getD k .i).d := by
  rw [ix_ts (sz h2), atN]
  simp [h]

def colR (rs : List (List T)) (k : Nat) : List T := rs.map fun r => r.getD k .i
theorem colR_len {rs : List (List T)} {k : Nat} : (colR rs k).length = rs.length := by simp [colR]

theorem column_eq {n : Nat} {rs : List (List T)} {k : Nat} (hr : rs.length ≤ 1000) (h : ∀ r ∈ rs, k < r.length ∧ r.length ≤ 1000) : goD (tx.run n) tx.gl tx.ex d_column [.box false .lst (rs.map tsD), .int k] = .ok (tsD (colR rs k)) := by
  simp [d_column]
  rw [lc_map (fun r : List T => (r.getD k .i).d) (sz (by omega)) fun r hr2 => ⟨_, bind_nm (by simp), rfl, by
    have := h r hr2
    simp [d_column_e1, wipeD]
    rw [ix_tsN (by omega) (by omega)]
    simp, fun _ => by simp⟩]
  have e : (rs.map fun r => (r.getD k .i).d) = (colR rs k).map T.d := by simp [colR, Function.comp_def]
  rw [e]
  simp only [bind_ok]
  rw [join_ts (by rw [colR_len]; omega)]
  simp

@[simp] theorem advance_eq {n : Nat} {t : T} : goD (tx.run n) tx.gl tx.ex d_advance [t.d] = .ok (.int t.v) := by
  cases t <;> simp [d_advance, T.v]
@[simp] theorem twisting_eq {n : Nat} {c : Cd} {t : T} : goD (tx.run (n + 1)) tx.gl tx.ex d_twisting [c.d, t.d] = .ok (.int (c.tw t)) := by
  simp only [Cd.d]
  cases e : c.s <;> simp [d_twisting, Cd.tw, e]

def twS (c : Cd) (ts : List T) : Int := (ts.map c.tw).sum
theorem twist_of_eq {n : Nat} {c : Cd} {ts : List T} : goD (tx.run (n + 2)) tx.gl tx.ex d_twist_of [c.d, tsD ts] = .ok (.int (twS c ts)) := by
  refine goD_eq rfl ?_
  simp [d_twist_of]
  refine wo_ix (fun i _ δ => δ = [c.d, tsD ts, .int (twS c (ts.take i)), .dead]) rfl (fun i t δ Pn e q hn => ?_) (fun δ q => ?_)
  · subst q
    refine ⟨_, bind_nm (by simp), ?_⟩
    simp [d_twist_of_b1]
    refine hn _ ?_
    rw [List.take_add_one, e]
    simp [twS]
  · subst q
    rw [List.take_length]
    simp
theorem twists_eq {n : Nat} {cs : List Cd} {rs : List (List T)} (hl : cs.length ≤ 1000) (hr : rs.length ≤ 1000) (h : ∀ r ∈ rs, r.length = cs.length) : goD (tx.run (n + 3)) tx.gl tx.ex d_twists [.box false .lst (cs.map Cd.d), .box false .lst (rs.map tsD)] = .ok (.box true .lst (cs.zipIdx.map fun p => .int (twS p.1 (colR rs p.2)))) := by
  simp [d_twists, enumL_map]
  rw [lc_map (fun p : Cd × Nat => .int (twS p.1 (colR rs p.2))) (sz (by simp; omega)) fun p hp => ⟨_, bind_tp (by simp), rfl, by
    have hk := (zipIdx_lt hp).1
    simp [d_twists_e1, wipeD, column_eq (rs := rs) (k := p.2) hr (fun r hr2 => by rw [h r hr2]; omega), twist_of_eq], fun z => by cases z⟩]
  simp

def pkS (c : Cd) (s : Int × Int) (t : T) : Int × Int := (s.1 + c.tw t, if (if s.1 + c.tw t < 0 then -(s.1 + c.tw t) else s.1 + c.tw t) > s.2 then (if s.1 + c.tw t < 0 then -(s.1 + c.tw t) else s.1 + c.tw t) else s.2)
def peak (c : Cd) (ts : List T) : Int := (ts.foldl (pkS c) (0, 0)).2

theorem peak_of_eq {n : Nat} {c : Cd} {ts : List T} : goD (tx.run (n + 2)) tx.gl tx.ex d_peak_of [c.d, tsD ts] = .ok (.int (peak c ts)) := by
  refine goD_eq rfl ?_
  simp [d_peak_of]
  refine wo_st (fun s _ δ => δ = [c.d, tsD ts, .int s.1, .int s.2, .dead]) (pkS c) (0, 0) rfl (fun s t δ Pn ht q hn => ?_) (fun δ q => ?_)
  · subst q
    refine ⟨_, bind_nm (by simp), ?_⟩
    simp only [d_peak_of_b1]
    simp
    refine hn _ ?_
    simp [pkS]
  · subst q
    simp [peak]
theorem peaks_eq {n : Nat} {cs : List Cd} {rs : List (List T)} (hl : cs.length ≤ 1000) (hr : rs.length ≤ 1000) (h : ∀ r ∈ rs, r.length = cs.length) : goD (tx.run (n + 3)) tx.gl tx.ex d_peaks [.box false .lst (cs.map Cd.d), .box false .lst (rs.map tsD)] = .ok (.box true .lst (cs.zipIdx.map fun p => .int (peak p.1 (colR rs p.2)))) := by
  simp [d_peaks, enumL_map]
  rw [lc_map (fun p : Cd × Nat => .int (peak p.1 (colR rs p.2))) (sz (by simp; omega)) fun p hp => ⟨_, bind_tp (by simp), rfl, by
    have hk := (zipIdx_lt hp).1
    simp [d_peaks_e1, wipeD, column_eq (rs := rs) (k := p.2) hr (fun r hr2 => by rw [h r hr2]; omega), peak_of_eq], fun z => by cases z⟩]
  simp

theorem tw_oppo {c : Cd} {t : T} : c.tw t.opp = -c.tw t := by
  unfold Cd.tw
  cases c.s <;> cases t <;> rfl
theorem pk_mono {c : Cd} : ∀ {ts : List T} {s : Int × Int}, s.2 ≤ (ts.foldl (pkS c) s).2
  | [], s => Int.le_refl _
  | t :: ts, s => by
    rw [List.foldl_cons]
    refine Int.le_trans ?_ (pk_mono (c := c) (ts := ts))
    unfold pkS
    show s.2 ≤ ite _ _ _
    (repeat' split) <;> omega
theorem pk_back {c : Cd} : ∀ {ts : List T} {a m : Int}, a ≤ m → -a ≤ m → (ts ++ (ts.map T.opp).reverse).foldl (pkS c) (a, m) = (a, (ts.foldl (pkS c) (a, m)).2)
  | [], a, m, _, _ => rfl
  | t :: ts, a, m, h1, h2 => by
    have e : t :: ts ++ ((t :: ts).map T.opp).reverse = t :: ((ts ++ (ts.map T.opp).reverse) ++ [t.opp]) := by simp
    obtain ⟨a', m', hp⟩ : ∃ a' m', pkS c (a, m) t = (a', m') := ⟨_, _, rfl⟩
    have ha : a' = a + c.tw t := by have := congrArg Prod.fst hp; exact this.symm
    have hm : m ≤ m' ∧ a' ≤ m' ∧ -a' ≤ m' := by
      have h3 := congrArg Prod.snd hp
      unfold pkS at h3
      simp only at h3
      rw [← ha] at h3
      rw [← h3]
      (repeat' split) <;> omega
    have er : ((t :: ts).foldl (pkS c) (a, m)).2 = (ts.foldl (pkS c) (a', m')).2 := by rw [List.foldl_cons, hp]
    rw [er, e, List.foldl_cons, List.foldl_append, hp, pk_back hm.2.1 hm.2.2]
    clear er hp e
    have hM := pk_mono (c := c) (ts := ts) (s := (a', m'))
    generalize (ts.foldl (pkS c) (a', m')).2 = M at hM
    simp only [List.foldl_cons, List.foldl_nil, pkS, tw_oppo]
    have e0 : a' + -c.tw t = a := by omega
    rw [e0]
    have hM : m' ≤ M := hM
    congr 1
    (repeat' split) <;> omega
theorem colR_mir {rs : List (List T)} {w k : Nat} (h : ∀ r ∈ rs, r.length = w) (hk : k < w) : colR (rs ++ oppR rs) k = colR rs k ++ ((colR rs k).map T.opp).reverse := by
  unfold colR oppR
  rw [List.map_append]
  congr 1
  rw [List.map_map, List.map_map, ← List.map_reverse]
  refine List.map_congr_left fun r hr => ?_
  have : k < r.length := by rw [h r (List.mem_reverse.mp hr)]; exact hk
  simp [this]
theorem peak_mir {c : Cd} {rs : List (List T)} {w k : Nat} (h : ∀ r ∈ rs, r.length = w) (hk : k < w) : peak c (colR (rs ++ oppR rs) k) = peak c (colR rs k) := by
  unfold peak
  rw [colR_mir h hk, pk_back (by omega) (by omega)]
theorem sum_back {c : Cd} : ∀ {ts : List T}, twS c (ts ++ (ts.map T.opp).reverse) = 0
  | [] => rfl
  | t :: ts => by
    have e : t :: ts ++ ((t :: ts).map T.opp).reverse = t :: ((ts ++ (ts.map T.opp).reverse) ++ [t.opp]) := by simp
    have ih := sum_back (c := c) (ts := ts)
    unfold twS at ih ⊢
    rw [e, List.map_cons, List.map_append, List.sum_cons, List.sum_append, ih]
    simp [tw_oppo]
    omega
theorem tw_mir {c : Cd} {rs : List (List T)} {w k : Nat} (h : ∀ r ∈ rs, r.length = w) (hk : k < w) : twS c (colR (rs ++ oppR rs) k) = 0 := by
  rw [colR_mir h hk, sum_back]

theorem laid_eq {n w B : Nat} (hw : w ≤ 1000) {p : List St} (hd : St.deps p ≤ 9) (ho : St.oks B (Rw w) p = true) (ht : St.tals p ≤ 240) :
    goD (tx.run (n + 23)) tx.gl tx.ex d_laid [.box false .lst (p.map (St.d false)), .int w] = .ok (.box false .lst ((St.lays w p).map tsD)) := by
  have e1 := tally_eq 9 (n := n + 3) hd ho
  have e2 := look_eq hw 9 (n := n + 12) hd ho
  have e3 := spread_eq hw 9 (n := n) hd ho ht
  have h : ¬ (240 : Int) < St.tals p := by omega
  simp [d_laid, e1, e2, e3, h]
theorem laid_long {n w B : Nat} {p : List St} (hd : St.deps p ≤ 9) {R : List Nat → Bool} (ho : St.oks B R p = true) (ht : 240 < St.tals p) :
    goD (tx.run (n + 23)) tx.gl tx.ex d_laid [.box false .lst (p.map (St.d false)), .int w] = .exc "TooLong" [] := by
  have e1 := tally_eq 9 (n := n + 3) hd ho
  simp [d_laid, e1, ht]

theorem tried_eq {n w B : Nat} (hw : w ≤ 1000) {p : List St} (hd : St.deps p ≤ 9) (ho : St.oks B (Rw w) p = true) (ht : St.tals p ≤ 240) :
    goD (tx.run (n + 24)) tx.gl tx.ex d_law_tried [.box false .lst (p.map (St.d false)), .int w] = .ok (.box false .lst ((St.lays w p).map tsD)) := by
  have e := laid_eq (n := n) hw hd ho ht
  simp [d_law_tried, e]
theorem tried_long {n B w : Nat} {p : List St} (hd : St.deps p ≤ 9) {R : List Nat → Bool} (ho : St.oks B R p = true) (ht : 240 < St.tals p) :
    goD (tx.run (n + 24)) tx.gl tx.ex d_law_tried [.box false .lst (p.map (St.d false)), .int w] = .ok .non := by
  have e := laid_long (n := n) (w := w) hd ho ht
  have hx : subX "TooLong" "TooLong" = true := by decide +kernel
  simp [d_law_tried, e, hx]

theorem oppR_app {a b : List (List T)} : oppR (a ++ b) = oppR b ++ oppR a := by simp [oppR]
theorem pl_tss {o : Bool} {rs : List (List T)} {n : Nat} : (D.box false .lst (rs.map tsD)).pl (n + 1) = true := by simp
theorem law_eq {ns : List Int} (hn : ns.length ≤ 63) : goD (tx.run 39) tx.gl tx.ex d_law [.scr ns] = .ok (.bl true) := by
  have e0 := at_ok (n := 38) (ns := ns) (k := 0) (by omega) (by omega) hn
  obtain ⟨ds, ed, hd⟩ := law_draws_ok (n := 37) (ns := ns) (k := 9) (by omega) (by omega) hn
  obtain ⟨w, hw⟩ : ∃ w : Nat, 1 + atS ns 0 % 8 = w := ⟨(1 + atS ns 0 % 8).toNat, by omega⟩
  have w1 : 1 ≤ w ∧ w ≤ 8 := by omega
  obtain ⟨p, ep, ho, hl, hdp⟩ := law_program_ok (n := 29) (mx := 6) (R := Rw w) (ds := ds) (w := w) (by omega) (by omega) (by omega) (fun ts h => Rw_row (by simpa using h)) (fun _ => Rw_all)
  rw [show ((6 : Nat) : Int) = 6 from rfl] at ep
  obtain ⟨cs, ec, hcl, _⟩ := draft_ok (n := 35) (a := 1) (w := (w : Int)) hn (by omega) (by omega) (by omega)
  have hcl : cs.length = w := by simpa using hcl
  have es := law_sum_eq 7 (n := 31) hdp ho
  have dm : St.deps [.mirror p] ≤ 8 := by simp [St.deps, St.dep]; omega
  have dd : St.deps [.mirror [.mirror p]] ≤ 9 := by simp [St.deps, St.dep]; omega
  have dt : St.deps [.times 2 [.mirror p]] ≤ 9 := by simp [St.deps, St.dep]; omega
  have om : St.oks 100 (Rw w) [.mirror p] = true := by simp [St.oks, St.ok, ho, hl]
  have od : St.oks 100 (Rw w) [.mirror [.mirror p]] = true := by simp [St.oks, St.ok, ho, hl]
  have ot : St.oks 100 (Rw w) [.times 2 [.mirror p]] = true := by simp [St.oks, St.ok, ho, hl]
  have tm : St.tals [.mirror p] = 2 * St.tals p := by simp [St.tals, St.tal]
  have td : St.tals [.mirror [.mirror p]] = 4 * St.tals p := by simp [St.tals, St.tal]; omega
  have tt : St.tals [.times 2 [.mirror p]] = 4 * St.tals p := by simp [St.tals, St.tal]; omega
  have nn := St.tals_nn ho
  have em4 : binD .mul (.int 4) (.int (St.tals p)) = .ok (.int (4 * St.tals p)) := mul_int (.inl (by omega))
  have sn := same_eq (n := 38) (d := .non) rfl (by simp)
  refine goD_eq rfl ?_
  by_cases hlong : 240 < 4 * St.tals p
  · have ed2 := tried_long (n := 14) (w := w) (by omega) od (by omega)
    have et2 := tried_long (n := 14) (w := w) (by omega) ot (by omega)
    simp only [List.map_cons, List.map_nil, St.d_mirror, St.d_times] at ed2 et2
    simp [d_law, e0, ed, hw, ep, ec, es, em4, hlong, ed2, et2, sn]
  · have ht60 : St.tals p ≤ 60 := by omega
    have er := tried_eq (n := 14) (w := w) (by omega) (by omega) om (by omega)
    have ed2 := tried_eq (n := 14) (w := w) (by omega) dd od (by omega)
    have et2 := tried_eq (n := 14) (w := w) (by omega) dt ot (by omega)
    obtain ⟨ll, lw⟩ := St.lays_len ho
    have el := law_lay_eq (w := w) (by omega) 7 (n := 30) hdp ho (by omega)
    have ey := tally_eq 8 (n := 21) dm om
    rw [tm] at ey
    obtain ⟨L, hL⟩ : ∃ L, L = St.lays w p := ⟨_, rfl⟩
    rw [← hL] at ll lw el
    have m1 : St.lays w [.mirror p] = L ++ oppR L := by simp [St.lays, St.lay, hL]
    have m2 : St.lays w [.mirror [.mirror p]] = (L ++ oppR L) ++ (L ++ oppR L) := by
      have : oppR (L ++ oppR L) = L ++ oppR L := by rw [oppR_app, oppR_oppR]
      simp only [St.lays, St.lay, List.append_nil, ← hL, this]
    have m3 : St.lays w [.times 2 [.mirror p]] = (L ++ oppR L) ++ (L ++ oppR L) := by
      simp only [St.lays, St.lay, List.append_nil, ← hL]
      simp [repL, List.replicate]
    rw [m1] at er
    rw [m2] at ed2
    rw [m3] at et2
    have Mw : ∀ r ∈ L ++ oppR L, r.length = cs.length := fun r hr => by
      rw [hcl]
      rcases List.mem_append.mp hr with h | h
      · exact lw r h
      · exact oppR_row lw r h
    have lM : (L ++ oppR L).length = 2 * L.length := by rw [List.length_append, oppR_len]; omega
    have et := twists_eq (n := 35) (cs := cs) (rs := L ++ oppR L) (by omega) (by omega) Mw
    have epk := peaks_eq (n := 35) (cs := cs) (rs := L ++ oppR L) (by omega) (by omega) Mw
    have epl := peaks_eq (n := 35) (cs := cs) (rs := L) (by omega) (by omega) fun r hr => by rw [hcl]; exact lw r hr
    have zt : (cs.zipIdx.map fun q => D.int (twS q.1 (colR (L ++ oppR L) q.2))) = cs.map fun _ => D.int 0 := by
      have : (cs.zipIdx.map fun q => D.int (twS q.1 (colR (L ++ oppR L) q.2))) = cs.zipIdx.map fun q => (fun _ : Cd => D.int 0) q.1 := List.map_congr_left fun q hq => by
        rw [tw_mir lw (by rw [← hcl]; exact (zipIdx_lt hq).1)]
      rw [this]
      exact List.ext_getElem (by simp) fun i _ _ => by simp
    have zp : (cs.zipIdx.map fun q => D.int (peak q.1 (colR (L ++ oppR L) q.2))) = cs.zipIdx.map fun q => D.int (peak q.1 (colR L q.2)) := List.map_congr_left fun q hq => by
      rw [peak_mir lw (by rw [← hcl]; exact (zipIdx_lt hq).1)]
    rw [zt] at et
    rw [zp] at epk
    have s1 := same_ok 38 (.box false .lst (L.map tsD)) (by simp)
    have s2 := same_ok 38 (.int (2 * St.tals p)) (by simp)
    have s3 := same_ok 38 (.box false .lst (cs.map fun _ => D.int 0)) (by simp)
    have s4 := same_ok 38 (.box false .lst (cs.zipIdx.map fun q => D.int (peak q.1 (colR L q.2)))) (by simp)
    have s5 := same_ok 38 (.box false .lst (((L ++ oppR L) ++ (L ++ oppR L)).map tsD)) (by simp)
    have c1 : cutL ((L ++ oppR L).map tsD) none (some (L.length : Int)) = L.map tsD := by
      rw [cutL_take (by omega), List.map_append, show ((L.length : Int)).toNat = (L.map tsD).length by simp]
      exact List.take_left' rfl
    have ha : ∀ o o' : Bool, binD .add (.box o .lst ((L ++ oppR L).map tsD)) (.box o' .lst ((L ++ oppR L).map tsD)) = .ok (.box true .lst (((L ++ oppR L) ++ (L ++ oppR L)).map tsD)) := fun o o' => by
      rw [List.map_append (l₁ := L ++ oppR L) (l₂ := L ++ oppR L)]
      exact add_lst ⟨sz (by rw [List.length_map, lM]; omega), nos_ts, nos_ts⟩
    have lsz : L.length ≤ sizeLine := sz (by omega)
    have lsz2 : (L ++ oppR L).length ≤ sizeLine := sz (by omega)
    simp only [List.map_cons, List.map_nil, St.d_mirror, St.d_times] at er ed2 et2 ey
    have hlc : ∀ δ : List D, δ.length = 10 → lcGo (fun x => bindTg (.nm 9) x (wipeD δ [9])) (ev (tx.run 39) tx.gl (.bl true)) (ev (tx.run 39) tx.gl d_law_e1) d_law_e1.view (cs.map Cd.d) [] = .ok (cs.map fun _ => D.int 0) := fun δ hd =>
      lc_map (fun _ => D.int 0) (sz (by omega)) fun c hc => ⟨_, bind_nm (by simp [wipeD, hd]), rfl, by simp [d_law_e1], fun _ => by simp⟩
    have hml : 2 * St.tals p = ((L ++ oppR L).length : Int) := by rw [lM, ← ll]; omega
    have hdec : ((L ++ oppR L).length : Int) = 2 * (L.length : Int) := by rw [lM]; omega
    rw [hml] at ey s2
    rw [hdec] at s2
    have p1 := nos_ts (rs := L ++ oppR L)
    have p2 := D.frzs_nos _ p1
    have p3 := nos_ts (rs := (L ++ oppR L) ++ (L ++ oppR L))
    have p4 := D.frzs_nos _ p3
    have p5 : ((L ++ oppR L).map tsD).length = (L ++ oppR L).length := List.length_map ..
    have q1 : D.nos (cs.zipIdx.map fun q => D.int (peak q.1 (colR L q.2))) = true := nos_mapF fun _ => by simp
    have q3 : D.nos (cs.map fun _ => D.int 0) = true := nos_mapF fun _ => by simp
    clear m1 m2 m3 zt zp hL hml lM lw Mw
    generalize L ++ oppR L = M at *
    generalize (M ++ M).map tsD = W at *
    generalize (cs.zipIdx.map fun q => D.int (peak q.1 (colR L q.2))) = PK at *
    generalize (cs.map fun _ => D.int 0) = ZZ at *
    have q2 := D.frzs_nos _ q1
    have q4 := D.frzs_nos _ q3
    simp [d_law, e0, ed, hw, ep, ec, es, em4, hlong, er, el, hdec, c1, s1, ey, s2, et, epk, epl, hlc, s3, s4, ha, ed2, et2, s5, q1, q2, q3, q4, p3, p4]
theorem law_true (ns : List Int) (hn : ns.length ≤ 63) : ∃ Fn, tx.run 40 d_law.nm = some Fn ∧ Fn [.scr ns] = .ok (.bl true) := ⟨_, run_law, law_eq hn⟩

end LW

open PySem PySem.W PySem.Calls PyProof.Rows
theorem PySem.Challenge.cw_wornband_k14_whole_mirrors_holds : PySem.Challenge.rw_wornband_k14_whole_mirrors.Holds := by
  w_on; o_law
  refine HandSHeadRun.head_any (r := OpenLaw.row PySem.Challenge.rw_wornband_k14_whole_mirrors) (q := view (OpenLaw.row PySem.Challenge.rw_wornband_k14_whole_mirrors).prog [41]) (H := LW.tx.hk LW.pr 4) (ob := LW.tx.ob LW.pr 4) (M := 3000) (loose := LW.loose) (d := HandSHeadRun.topDef (OpenLaw.row PySem.Challenge.rw_wornband_k14_whole_mirrors).prog 41) (kwd := []) (LW.tx.ob_eq LW.pr 4)
    (by kernel_rfl) (fun s => by kernel_rfl) LW.run (by kernel_rfl) (by kernel_rfl) (by kernel_rfl) (by rfl) (by first | assumption | decide +kernel) (by decide +kernel) ⟨rfl, rfl, rfl, rfl, rfl, by decide +kernel⟩ ?hw ?hc
  case hw => w_witness2
  case hc =>
    refine PX.walkW (l := PySem.Challenge.rw_wornband_k14_whole_mirrors) (n := 63) (k := 41) (x := "_law_script") rfl (by decide) (by kernel_rfl) ⟨rfl, by decide, by decide⟩ ?F
    intro w mg fa h Y G hmg0
    obtain ⟨K, KX, c⟩ := Y
    have hmg : mg LW.d_law.nm = some (.ref fa) := by
      have e : (HandSHeadRun.topDef (OpenLaw.row PySem.Challenge.rw_wornband_k14_whole_mirrors).prog 41).name = LW.d_law.nm := by kernel_rfl
      rw [← e]
      exact hmg0
    exact PX.Tx.facts (i := 41) (n := 40) KX G hmg c LW.okB LW.binds (List.mem_of_getElem? (i := 31) rfl) rfl rfl rfl 63 LW.law_true
