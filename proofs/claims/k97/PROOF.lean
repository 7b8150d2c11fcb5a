import PyProof.Rows.All
import Wide.All
import OpenK.AllK
import Wide.FinOn
import HandS.ForMost
import HandS.Deep
import HandS.Style
import HandS.TupAny
import HandS.Zip
import HandS.Wide
import HandS.WideBits
import HandS.IsInst
import HandS.Conv
import HandS.SortInts
import KE.KTupSum
import PyProof.ReprRoads
import PyProof.ReprLen
import PyProof.StrLawsRepr
import HandS.SetFor
import KE.GoesEnum
import PySem.Challenge.RW_twowaycounts_k97_whole_powers_told_and_s
set_option Elab.async false
set_option linter.all false
set_option maxRecDepth 100000
/-! values as data over a heap: what a frame knows -/
namespace Pd
open PySem PySem.Spec PyProof.Rows L2

/-- the script, as data -/
def scrD (ns : List Int) : PyData := .dict [(.none, .list (ns.map PyData.int))]

mutual
inductive Rp (K : PySem.W.Frag) (G : Hp) : V → PyData → Prop
  | non : Rp K G .non .none
  | bl (b : Bool) : Rp K G (.bl b) (.bool b)
  | int (i : Int) : Rp K G (.int i) (.int i)
  | str (x : Str) : Rp K G (.str x) (.str x)
  | lst {a : Addr} {xs : List V} {ds : List PyData} : G a = some (.lst xs) → RpAll K G xs ds → Rp K G (.ref a) (.list ds)
  | tup {a : Addr} {xs : List V} {ds : List PyData} : G a = some (.tup xs) → RpAll K G xs ds → Rp K G (.ref a) (.tuple ds)
  | scr {a : Addr} {ns : List Int} : SqL K G a (ns.map V.int) → Rp K G (.ref a) (scrD ns)
inductive RpAll (K : PySem.W.Frag) (G : Hp) : List V → List PyData → Prop
  | nil : RpAll K G [] []
  | cons {v : V} {vs : List V} {d : PyData} {ds : List PyData} : Rp K G v d → RpAll K G vs ds → RpAll K G (v :: vs) (d :: ds)
end

section
variable {K : PySem.W.Frag} {G G' H : Hp}
mutual
theorem Rp.mono (e : Same G G') : ∀ {v : V} {d : PyData}, Rp K G v d → Rp K G' v d
  | _, _, .non => .non
  | _, _, .bl b => .bl b
  | _, _, .int i => .int i
  | _, _, .str x => .str x
  | _, _, .lst h r => .lst (e _ _ h) (RpAll.mono e r)
  | _, _, .tup h r => .tup (e _ _ h) (RpAll.mono e r)
  | _, _, .scr h => .scr (e.seq h)
theorem RpAll.mono (e : Same G G') : ∀ {vs : List V} {ds : List PyData}, RpAll K G vs ds → RpAll K G' vs ds
  | _, _, .nil => .nil
  | _, _, .cons h r => .cons (Rp.mono e h) (RpAll.mono e r)
end

theorem RpAll.len : ∀ {vs : List V} {ds : List PyData}, RpAll K G vs ds → vs.length = ds.length
  | _, _, .nil => rfl
  | _, _, .cons _ r => by simp [RpAll.len r]
theorem RpAll.app : ∀ {vs us : List V} {ds es : List PyData}, RpAll K G vs ds → RpAll K G us es → RpAll K G (vs ++ us) (ds ++ es)
  | _, _, _, _, .nil, s => s
  | _, _, _, _, .cons h r, s => .cons h (RpAll.app r s)
theorem RpAll.take : ∀ {vs : List V} {ds : List PyData} (n : Nat), RpAll K G vs ds → RpAll K G (vs.take n) (ds.take n)
  | _, _, 0, _ => by simpa using RpAll.nil
  | _, _, _ + 1, .nil => .nil
  | _, _, n + 1, .cons h r => .cons h (RpAll.take n r)
theorem RpAll.drop : ∀ {vs : List V} {ds : List PyData} (n : Nat), RpAll K G vs ds → RpAll K G (vs.drop n) (ds.drop n)
  | _, _, 0, r => r
  | _, _, _ + 1, .nil => .nil
  | _, _, n + 1, .cons _ r => RpAll.drop n r
theorem RpAll.rev : ∀ {vs : List V} {ds : List PyData}, RpAll K G vs ds → RpAll K G vs.reverse ds.reverse
  | _, _, .nil => .nil
  | _, _, .cons h r => by
    rw [List.reverse_cons, List.reverse_cons]
    exact RpAll.app (RpAll.rev r) (.cons h .nil)
theorem RpAll.set {v : V} {d : PyData} (h : Rp K G v d) : ∀ {vs : List V} {ds : List PyData} (i : Nat), RpAll K G vs ds → RpAll K G (vs.set i v) (ds.set i d)
  | _, _, _, .nil => .nil
  | _, _, 0, .cons _ r => .cons h r
  | _, _, i + 1, .cons q r => .cons q (RpAll.set h i r)
theorem RpAll.erase : ∀ {vs : List V} {ds : List PyData} (i : Nat), RpAll K G vs ds → RpAll K G (vs.eraseIdx i) (ds.eraseIdx i)
  | _, _, _, .nil => .nil
  | _, _, 0, .cons _ r => r
  | _, _, i + 1, .cons q r => .cons q (RpAll.erase i r)
theorem RpAll.rep {vs : List V} {ds : List PyData} (h : RpAll K G vs ds) : ∀ k : Nat, RpAll K G (List.replicate k vs).flatten (List.replicate k ds).flatten
  | 0 => .nil
  | k + 1 => by
    rw [List.replicate_succ, List.replicate_succ, List.flatten_cons, List.flatten_cons]
    exact h.app (RpAll.rep h k)
theorem RpAll.get : ∀ {vs : List V} {ds : List PyData} {i : Nat} {d : PyData}, RpAll K G vs ds → ds[i]? = some d → ∃ v, vs[i]? = some v ∧ Rp K G v d
  | _, _, _, _, .nil, e => by simp at e
  | _, _, 0, _, .cons h _, e => by
    simp at e
    subst e
    exact ⟨_, rfl, h⟩
  | _, _, i + 1, _, .cons _ r, e => by
    obtain ⟨v, e1, h⟩ := RpAll.get (i := i) r (by simpa using e)
    exact ⟨v, by simpa using e1, h⟩
theorem RpAll.getV : ∀ {vs : List V} {ds : List PyData} {i : Nat} {v : V}, RpAll K G vs ds → vs[i]? = some v → ∃ d, ds[i]? = some d ∧ Rp K G v d
  | _, _, _, _, .nil, e => by simp at e
  | _, _, 0, _, .cons h _, e => by
    simp at e
    subst e
    exact ⟨_, rfl, h⟩
  | _, _, i + 1, _, .cons _ r, e => by
    obtain ⟨v, e1, h⟩ := RpAll.getV (i := i) r (by simpa using e)
    exact ⟨v, by simpa using e1, h⟩
theorem RpAll.ints : ∀ {vs : List V} {ns : List Int}, RpAll K G vs (ns.map PyData.int) → vs = ns.map V.int
  | [], [], _ => rfl
  | [], _ :: _, h => by cases h
  | _ :: _, [], h => by cases h
  | v :: vs, n :: ns, h => by
    cases h with
    | cons h r =>
      cases h
      rw [List.map_cons, RpAll.ints r]
theorem RpAll.ofInts : ∀ (ns : List Int), RpAll K G (ns.map V.int) (ns.map PyData.int)
  | [] => .nil
  | n :: ns => .cons (.int n) (RpAll.ofInts ns)
theorem RpAll.bools : ∀ {vs : List V} {bs : List Bool}, RpAll K G vs (bs.map PyData.bool) → vs = bs.map V.bl
  | [], [], _ => rfl
  | [], _ :: _, h => by cases h
  | _ :: _, [], h => by cases h
  | v :: vs, n :: ns, h => by
    cases h with
    | cons h r =>
      cases h
      rw [List.map_cons, RpAll.bools r]

mutual
/-- no dict within -/
theorem Rp.dp : ∀ {v : V} (d : PyData), d.canLay0 = true → Rp K G v d → Dp K G v d
  | _, .none, _, h => by cases h; exact .non
  | _, .bool b, _, h => by cases h; exact .bl b
  | _, .int i, _, h => by cases h; exact .int i
  | _, .str x, _, h => by cases h; exact .str x
  | _, .list ds, c, h => by
    cases h with
    | lst e r => exact .lst (SqL.of e) (RpAll.dp ds (by simpa [PyData.canLay0] using c) r)
  | _, .tuple ds, c, h => by
    cases h with
    | tup e r => exact .tup (SqT.of e) (RpAll.dp ds (by simpa [PyData.canLay0] using c) r)
  | _, .dict _, c, _ => by simp [PyData.canLay0] at c
theorem RpAll.dp : ∀ {vs : List V} (ds : List PyData), PyData.canLayAll0 ds = true → RpAll K G vs ds → DpAll K G vs ds
  | _, [], _, h => by cases h; exact .nil
  | _, d :: ds, c, h => by
    cases h with
    | cons h r =>
      have c' : d.canLay0 = true ∧ PyData.canLayAll0 ds = true := by simpa [PyData.canLayAll0] using c
      exact .cons (Rp.dp d c'.1 h) (RpAll.dp ds c'.2 r)
end
end

/-! ### what a frame knows: its names, values on their way -/
inductive Cell where
  | no | va (d : PyData) | ow (ds : List PyData) | io (ds : List PyData)
inductive Opd where
  | va (d : PyData) | ow (ds : List PyData) | sl (i : Nat)
abbrev EnvD := List Cell
abbrev Tmp := List (Opd × V)

def CellR (K : PySem.W.Frag) (G H : Hp) : Cell → Option (Option V) → Prop
  | .no, _ => True
  | .va d, o => ∃ v, o = some (some v) ∧ Rp K G v d
  | .ow ds, o => ∃ a xs, o = some (some (.ref a)) ∧ H a = some (.lst xs) ∧ RpAll K G xs ds
  | .io ds, o => ∃ a xs, o = some (some (.ref a)) ∧ H a = some (.lst xs) ∧ RpAll K G xs ds
def OpdR (K : PySem.W.Frag) (G H : Hp) (σ : L2.St) : Opd → V → Prop
  | .va d, v => Rp K G v d
  | .ow ds, v => ∃ a xs, v = .ref a ∧ H a = some (.lst xs) ∧ RpAll K G xs ds
  | .sl i, v => σ[i]? = some (some v)
def OwnS (env : EnvD) (σ : L2.St) (i : Nat) (a : Addr) : Prop := (∃ ds, env[i]? = some (.ow ds) ∨ env[i]? = some (.io ds)) ∧ σ[i]? = some (some (.ref a))
def ownT : Tmp → List Addr
  | [] => []
  | (.ow _, .ref a) :: t => a :: ownT t
  | _ :: t => ownT t
theorem ownT_va {d : PyData} {v : V} {t : Tmp} : ownT ((.va d, v) :: t) = ownT t := by cases v <;> rfl
theorem ownT_sl {i : Nat} {v : V} {t : Tmp} : ownT ((.sl i, v) :: t) = ownT t := by cases v <;> rfl
theorem ownT_ow {ds : List PyData} {a : Addr} {t : Tmp} : ownT ((.ow ds, .ref a) :: t) = a :: ownT t := rfl
theorem ownT_sub {p : Opd × V} {t : Tmp} : ∀ a, a ∈ ownT t → a ∈ ownT (p :: t) := fun a h => by
  obtain ⟨o, v⟩ := p
  cases o <;> cases v <;> first | exact h | exact List.mem_cons_of_mem _ h

def own1 : Opd × V → Option Addr
  | (.ow _, .ref a) => some a
  | _ => none
theorem ownT_eq : ∀ t : Tmp, ownT t = t.filterMap own1
  | [] => rfl
  | (.ow ds, .ref a) :: t => by
    rw [ownT_ow, ownT_eq t]
    rfl
  | (.va d, v) :: t => by
    rw [ownT_va, ownT_eq t]
    rfl
  | (.sl i, v) :: t => by
    rw [ownT_sl, ownT_eq t]
    rfl
  | (.ow ds, .non) :: t => by show ownT t = _; rw [ownT_eq t]; rfl
  | (.ow ds, .bl _) :: t => by show ownT t = _; rw [ownT_eq t]; rfl
  | (.ow ds, .int _) :: t => by show ownT t = _; rw [ownT_eq t]; rfl
  | (.ow ds, .str _) :: t => by show ownT t = _; rw [ownT_eq t]; rfl
  | (.ow ds, .byt _) :: t => by show ownT t = _; rw [ownT_eq t]; rfl
  | (.ow ds, .flt _) :: t => by show ownT t = _; rw [ownT_eq t]; rfl
  | (.ow ds, .ty _) :: t => by show ownT t = _; rw [ownT_eq t]; rfl
/-- what the frame's end has to leave as it was; the place of the list that it may change -/
structure RR where
  h : Hp
  io : Option Addr
structure SR (K : PySem.W.Frag) (R : RR) (G0 G H : Hp) (env : EnvD) (σ : L2.St) (tmp : Tmp) : Prop where
  gh : Same G H
  rh : Same R.h H
  g0 : Same G0 G
  gr : ∀ b, G b ≠ none → G0 b ≠ none ∨ R.h b = none
  len : env.length = σ.length
  slot : ∀ (i : Nat) c, env[i]? = some c → CellR K G H c σ[i]?
  free : ∀ (i : Nat) a, OwnS env σ i a → G a = none ∧ R.h a = none
  apart : ∀ (i j : Nat) a, OwnS env σ i a → OwnS env σ j a → i = j
  tm : ∀ p ∈ tmp, OpdR K G H σ p.1 p.2
  freeT : ∀ a, a ∈ ownT tmp → G a = none ∧ R.h a = none
  nd : (ownT tmp).Nodup
  cross : ∀ (i : Nat) a, OwnS env σ i a → a ∉ ownT tmp
  iod : ∀ (i : Nat) ds, env[i]? = some (.io ds) → ∃ a, R.io = some a ∧ σ[i]? = some (some (.ref a))

section
variable {K : PySem.W.Frag} {R : RR} {G0 G G' H H' : Hp} {env : EnvD} {σ : L2.St} {tmp : Tmp} {p : Addr} {v : V} {d : PyData} {ds : List PyData} {xs : List V}

theorem same_new {o : HO} (h : H p = none) : Same H (upd H p o) := fun b x e => by
  rw [upd_ne (ne_of_none e h)]
  exact e
theorem same_none (e : Same H H') (h : H' p = none) : H p = none := e.free h
theorem CellR.keep {c : Cell} {o : Option (Option V)} (h : CellR K G H c o) (eg : Same G G') (eh : ∀ a xs, (∃ ds, c = .ow ds ∨ c = .io ds) → o = some (some (.ref a)) → H a = some (.lst xs) → H' a = some (.lst xs)) : CellR K G' H' c o := by
  cases c with
  | no => trivial
  | va d =>
    obtain ⟨v, e, r⟩ := h
    exact ⟨v, e, r.mono eg⟩
  | ow ds =>
    obtain ⟨a, xs, e, e2, r⟩ := h
    exact ⟨a, xs, e, eh a xs ⟨ds, .inl rfl⟩ e e2, r.mono eg⟩
  | io ds =>
    obtain ⟨a, xs, e, e2, r⟩ := h
    exact ⟨a, xs, e, eh a xs ⟨ds, .inr rfl⟩ e e2, r.mono eg⟩
theorem OpdR.keep {o : Opd} (h : OpdR K G H σ o v) (eg : Same G G') (eh : ∀ a xs, (∃ ds, o = .ow ds) → v = .ref a → H a = some (.lst xs) → H' a = some (.lst xs)) : OpdR K G' H' σ o v := by
  cases o with
  | va d => exact Rp.mono eg h
  | ow ds =>
    obtain ⟨a, xs, e, e2, r⟩ := h
    exact ⟨a, xs, e, eh a xs ⟨ds, rfl⟩ e e2, r.mono eg⟩
  | sl i => exact h

/-- the heap grows by what no one knows -/
theorem SR.grow (S : SR K R G0 G H env σ tmp) (e : Same H H') : SR K R G0 G H' env σ tmp :=
  ⟨S.gh.trans e, S.rh.trans e, S.g0, S.gr, S.len, fun i c h => (S.slot i c h).keep (Same.refl _) fun a xs _ _ h => e a _ h, S.free, S.apart,
    fun q hq => (S.tm q hq).keep (Same.refl _) fun a xs _ _ h => e a _ h, S.freeT, S.nd, S.cross, S.iod⟩
theorem SR.pushVa (S : SR K R G0 G H env σ tmp) (h : Rp K G v d) : SR K R G0 G H env σ ((.va d, v) :: tmp) :=
  ⟨S.gh, S.rh, S.g0, S.gr, S.len, S.slot, S.free, S.apart, fun q hq => by
    rcases List.mem_cons.mp hq with e | e
    · subst e
      exact h
    · exact S.tm q e, by rw [ownT_va]; exact S.freeT, by rw [ownT_va]; exact S.nd, by rw [ownT_va]; exact S.cross, S.iod⟩
theorem SR.pushSl {i : Nat} (S : SR K R G0 G H env σ tmp) (h : σ[i]? = some (some v)) : SR K R G0 G H env σ ((.sl i, v) :: tmp) :=
  ⟨S.gh, S.rh, S.g0, S.gr, S.len, S.slot, S.free, S.apart, fun q hq => by
    rcases List.mem_cons.mp hq with e | e
    · subst e
      exact h
    · exact S.tm q e, by rw [ownT_sl]; exact S.freeT, by rw [ownT_sl]; exact S.nd, by rw [ownT_sl]; exact S.cross, S.iod⟩
theorem SR.pop {q : Opd × V} (S : SR K R G0 G H env σ (q :: tmp)) : SR K R G0 G H env σ tmp :=
  ⟨S.gh, S.rh, S.g0, S.gr, S.len, S.slot, S.free, S.apart, fun q hq => S.tm q (List.mem_cons_of_mem _ hq), fun a h => S.freeT a (ownT_sub a h), by
    have h := S.nd
    obtain ⟨o, v⟩ := q
    cases o <;> cases v <;> first | exact h | exact (List.nodup_cons.mp h).2, fun i a h z => S.cross i a h (ownT_sub a z), S.iod⟩
theorem SR.sub {tmp' : Tmp} (S : SR K R G0 G H env σ tmp) (h : tmp'.Sublist tmp) : SR K R G0 G H env σ tmp' := by
  have hs : (ownT tmp').Sublist (ownT tmp) := by
    rw [ownT_eq, ownT_eq]
    exact h.filterMap _
  exact ⟨S.gh, S.rh, S.g0, S.gr, S.len, S.slot, S.free, S.apart, fun q hq => S.tm q (h.subset hq), fun a ha => S.freeT a (hs.subset ha), S.nd.sublist hs, fun i a hi z => S.cross i a hi (hs.subset z), S.iod⟩
theorem SR.perm {tmp' : Tmp} (S : SR K R G0 G H env σ tmp) (h : tmp.Perm tmp') : SR K R G0 G H env σ tmp' := by
  have hs : (ownT tmp).Perm (ownT tmp') := by
    rw [ownT_eq, ownT_eq]
    exact h.filterMap _
  exact ⟨S.gh, S.rh, S.g0, S.gr, S.len, S.slot, S.free, S.apart, fun q hq => S.tm q (h.mem_iff.mpr hq), fun a ha => S.freeT a (hs.mem_iff.mpr ha), hs.nodup_iff.mp S.nd, fun i a hi z => S.cross i a hi (hs.mem_iff.mpr z), S.iod⟩
theorem SR.ownH (S : SR K R G0 G H env σ tmp) {i : Nat} {a : Addr} (h : OwnS env σ i a) : ∃ xs, H a = some (.lst xs) := by
  obtain ⟨⟨ds, e⟩, e2⟩ := h
  rcases e with e | e
  · obtain ⟨b, xs, e3, e4, _⟩ := S.slot i _ e
    rw [e2] at e3
    cases e3
    exact ⟨xs, e4⟩
  · obtain ⟨b, xs, e3, e4, _⟩ := S.slot i _ e
    rw [e2] at e3
    cases e3
    exact ⟨xs, e4⟩
theorem ownT_mem {t : Tmp} : ∀ {a : Addr}, a ∈ ownT t → ∃ ds, (Opd.ow ds, V.ref a) ∈ t := by
  induction t with
  | nil => intro a h; cases h
  | cons q t ih =>
    intro a h
    obtain ⟨o, v⟩ := q
    have tl : a ∈ ownT t → ∃ ds, (Opd.ow ds, V.ref a) ∈ (o, v) :: t := fun z => by
      obtain ⟨ds, hm⟩ := ih z
      exact ⟨ds, List.mem_cons_of_mem _ hm⟩
    cases o with
    | va d => exact tl (by rw [ownT_va] at h; exact h)
    | sl i => exact tl (by rw [ownT_sl] at h; exact h)
    | ow ds =>
      cases v with
      | ref b =>
        rw [ownT_ow] at h
        rcases List.mem_cons.mp h with e | e
        · subst e
          exact ⟨ds, List.mem_cons_self⟩
        · exact tl e
      | _ => exact tl h
theorem SR.ownTH (S : SR K R G0 G H env σ tmp) {a : Addr} (h : a ∈ ownT tmp) : ∃ xs, H a = some (.lst xs) := by
  obtain ⟨ds, hm⟩ := ownT_mem h
  obtain ⟨b, xs, e, e2, _⟩ := S.tm _ hm
  cases e
  exact ⟨xs, e2⟩
/-- a new list, one's own -/
theorem SR.newL (S : SR K R G0 G H env σ tmp) (hp : H p = none) (h : RpAll K G xs ds) : SR K R G0 G (upd H p (.lst xs)) env σ ((.ow ds, .ref p) :: tmp) := by
  have e : Same H (upd H p (.lst xs)) := same_new hp
  have S' := S.grow e
  have np : p ∉ ownT tmp := fun z => by
    obtain ⟨ys, e2⟩ := S.ownTH z
    rw [hp] at e2
    cases e2
  refine ⟨S'.gh, S'.rh, S'.g0, S'.gr, S'.len, S'.slot, S'.free, S'.apart, fun q hq => ?_, fun a ha => ?_, ?_, fun i a hi ha => ?_, S'.iod⟩
  · rcases List.mem_cons.mp hq with z | z
    · subst z
      exact ⟨p, xs, rfl, upd_same, h⟩
    · exact S'.tm q z
  · rw [ownT_ow] at ha
    rcases List.mem_cons.mp ha with z | z
    · subst z
      exact ⟨S.gh.free hp, S.rh.free hp⟩
    · exact S'.freeT a z
  · rw [ownT_ow]
    exact List.nodup_cons.mpr ⟨np, S.nd⟩
  · rw [ownT_ow] at ha
    rcases List.mem_cons.mp ha with z | z
    · subst z
      obtain ⟨ys, e2⟩ := S.ownH hi
      rw [hp] at e2
      cases e2
    · exact S'.cross i a hi z
/-- G grows by an address that H holds so, that is nobody's own -/
theorem SR.gup {o : HO} (S : SR K R G0 G H env σ tmp) (hH : H p = some o) (hG : G p = none) (hR : R.h p = none) (h1 : ∀ i, ¬ OwnS env σ i p) (h2 : p ∉ ownT tmp) : SR K R G0 (upd G p o) H env σ tmp ∧ Same G (upd G p o) := by
  have e : Same G (upd G p o) := same_new hG
  refine ⟨⟨fun b u z => ?_, S.rh, S.g0.trans e, fun b hb => ?_, S.len, fun i c h => (S.slot i c h).keep e fun _ _ _ _ z => z, fun i a hi => ?_, S.apart, fun q hq => (S.tm q hq).keep e fun _ _ _ _ z => z, fun a ha => ?_, S.nd, S.cross, S.iod⟩, e⟩
  · by_cases hb : b = p
    · subst hb
      rw [upd_same] at z
      cases z
      exact hH
    · rw [upd_ne hb] at z
      exact S.gh b u z
  · by_cases hbp : b = p
    · subst hbp
      exact .inr hR
    · rw [upd_ne hbp] at hb
      exact S.gr b hb
  · have ne : a ≠ p := fun z => h1 i (z ▸ hi)
    rw [upd_ne ne]
    exact S.free i a hi
  · have ne : a ≠ p := fun z => h2 (z ▸ ha)
    rw [upd_ne ne]
    exact S.freeT a ha
/-- a new tuple, at once known to stay -/
theorem SR.newT (S : SR K R G0 G H env σ tmp) (hp : H p = none) (h : RpAll K G xs ds) :
    SR K R G0 (upd G p (.tup xs)) (upd H p (.tup xs)) env σ ((.va (.tuple ds), .ref p) :: tmp) ∧ Same G (upd G p (.tup xs)) := by
  have S' := S.grow (same_new (o := .tup xs) hp)
  obtain ⟨S2, e2⟩ := S'.gup (p := p) (o := .tup xs) upd_same (S.gh.free hp) (S.rh.free hp) (fun i hi => by
    obtain ⟨ys, q⟩ := S.ownH hi
    rw [hp] at q
    cases q) (fun z => by
    obtain ⟨ys, q⟩ := S.ownTH z
    rw [hp] at q
    cases q)
  exact ⟨S2.pushVa (.tup upd_same (h.mono e2)), e2⟩
/-- one's own list on its way is known to stay -/
theorem SR.thaw (S : SR K R G0 G H env σ ((.ow ds, v) :: tmp)) : ∃ G', Same G G' ∧ SR K R G0 G' H env σ ((.va (.list ds), v) :: tmp) := by
  obtain ⟨a, xs, e, e2, r⟩ := S.tm _ List.mem_cons_self
  have e : v = .ref a := e
  subst e
  have f := S.freeT a (by rw [ownT_ow]; exact List.mem_cons_self)
  have nd := S.nd
  rw [ownT_ow] at nd
  obtain ⟨S2, e3⟩ := S.pop.gup (p := a) e2 f.1 f.2 (fun i hi => S.cross i a hi (by rw [ownT_ow]; exact List.mem_cons_self)) (List.nodup_cons.mp nd).1
  exact ⟨_, e3, S2.pushVa (.lst upd_same (r.mono e3))⟩
theorem getElem?_set_cases {α : Type} {l : List α} {i j : Nat} {x y : α} (h : (l.set i x)[j]? = some y) : (j = i ∧ y = x ∧ i < l.length) ∨ (j ≠ i ∧ l[j]? = some y) := by
  by_cases hj : j = i
  · subst hj
    by_cases hl : j < l.length
    · rw [List.getElem?_set_self hl] at h
      cases h
      exact .inl ⟨rfl, rfl, hl⟩
    · rw [List.getElem?_eq_none (by simpa using hl)] at h
      cases h
  · rw [List.getElem?_set_ne (Ne.symm hj)] at h
    exact .inr ⟨hj, h⟩
theorem iod_no {R : RR} {i : Nat} {c : Cell} (h : ∀ (i : Nat) ds, env[i]? = some (.io ds) → ∃ a, R.io = some a ∧ σ[i]? = some (some (.ref a))) (hc : ∀ ds, c ≠ .io ds) : ∀ (j : Nat) ds, (env.set i c)[j]? = some (.io ds) → ∃ a, R.io = some a ∧ σ[j]? = some (some (.ref a)) := fun j ds q => by
  rcases getElem?_set_cases q with ⟨_, z, _⟩ | ⟨_, z⟩
  · exact absurd z.symm (hc ds)
  · exact h j ds z
theorem iod_set {R : RR} {i : Nat} {c : Cell} {x : Option V} (h : ∀ (i : Nat) ds, env[i]? = some (.io ds) → ∃ a, R.io = some a ∧ σ[i]? = some (some (.ref a))) (hc : ∀ ds, c ≠ .io ds) : ∀ (j : Nat) ds, (env.set i c)[j]? = some (.io ds) → ∃ a, R.io = some a ∧ (σ.set i x)[j]? = some (some (.ref a)) := fun j ds q => by
  rcases getElem?_set_cases q with ⟨_, z, _⟩ | ⟨hj, z⟩
  · exact absurd z.symm (hc ds)
  · rw [List.getElem?_set_ne (Ne.symm hj)]
    exact h j ds z
/-- a cell of one's own is known to stay -/
theorem SR.thawS {i : Nat} (S : SR K R G0 G H env σ ((.sl i, v) :: tmp)) (h : env[i]? = some (.ow ds)) :
    ∃ G', Same G G' ∧ SR K R G0 G' H (env.set i (.va (.list ds))) σ ((.va (.list ds), v) :: tmp) := by
  obtain ⟨a, xs, e, e2, r⟩ := S.slot i _ h
  have ev : σ[i]? = some (some v) := S.tm _ List.mem_cons_self
  rw [e] at ev
  cases ev
  have hO : OwnS env σ i a := ⟨⟨ds, .inl h⟩, e⟩
  have f := S.free i a hO
  have T := S.pop
  have own' : ∀ j b, OwnS (env.set i (.va (.list ds))) σ j b → OwnS env σ j b ∧ j ≠ i := fun j b ⟨⟨es, q⟩, q2⟩ => by
    rcases q with q | q <;> rcases getElem?_set_cases q with ⟨_, z, _⟩ | ⟨hj, z⟩
    · cases z
    · exact ⟨⟨⟨es, .inl z⟩, q2⟩, hj⟩
    · cases z
    · exact ⟨⟨⟨es, .inr z⟩, q2⟩, hj⟩
  -- first forget the cell
  have T1 : SR K R G0 G H (env.set i .no) σ tmp := by
    refine ⟨T.gh, T.rh, T.g0, T.gr, by rw [List.length_set]; exact T.len, fun j c q => ?_, fun j b q => ?_, fun j k b q1 q2 => ?_, T.tm, T.freeT, T.nd, fun j b q => ?_, iod_no T.iod fun _ z => nomatch z⟩
    · rcases getElem?_set_cases q with ⟨_, z, _⟩ | ⟨_, z⟩
      · subst z
        trivial
      · exact T.slot j c z
    all_goals
      have w : ∀ j b, OwnS (env.set i .no) σ j b → OwnS env σ j b := fun j b ⟨⟨es, q⟩, q2⟩ => by
        rcases q with q | q <;> rcases getElem?_set_cases q with ⟨_, z, _⟩ | ⟨hj, z⟩
        · cases z
        · exact ⟨⟨es, .inl z⟩, q2⟩
        · cases z
        · exact ⟨⟨es, .inr z⟩, q2⟩
    · exact T.free j b (w j b q)
    · exact T.apart j k b (w j b q1) (w k b q2)
    · exact T.cross j b (w j b q)
  obtain ⟨S2, e3⟩ := T1.gup (p := a) e2 f.1 f.2 (fun j ⟨⟨es, q⟩, q2⟩ => by
    have hO2 : OwnS env σ j a ∧ j ≠ i := by
      rcases q with q | q <;> rcases getElem?_set_cases q with ⟨_, z, _⟩ | ⟨hj, z⟩
      · cases z
      · exact ⟨⟨⟨es, .inl z⟩, q2⟩, hj⟩
      · cases z
      · exact ⟨⟨⟨es, .inr z⟩, q2⟩, hj⟩
    exact hO2.2 (T.apart j i a hO2.1 hO)) (T.cross i a hO)
  refine ⟨_, e3, ?_⟩
  have S3 : SR K R G0 (upd G a (.lst xs)) H (env.set i (.va (.list ds))) σ tmp := by
    refine ⟨S2.gh, S2.rh, S2.g0, S2.gr, by rw [List.length_set]; exact T.len, fun j c q => ?_, fun j b q => ?_, fun j k b q1 q2 => T.apart j k b (own' j b q1).1 (own' k b q2).1, S2.tm, S2.freeT, S2.nd, fun j b q => T.cross j b (own' j b q).1, iod_no T.iod fun _ z => nomatch z⟩
    · rcases getElem?_set_cases q with ⟨z1, z, _⟩ | ⟨hj, z⟩
      · subst z1
        subst z
        exact ⟨.ref a, e, .lst upd_same (r.mono e3)⟩
      · exact S2.slot j c (by rw [List.getElem?_set_ne (Ne.symm hj)]; exact z)
    · obtain ⟨q1, q2⟩ := own' j b q
      have ne : b ≠ a := fun z => q2 (T.apart j i a (z ▸ q1) hO)
      rw [upd_ne ne]
      exact T.free j b q1
  exact S3.pushVa (.lst upd_same (r.mono e3))
/-- one's own list is written -/
theorem SR.write {i : Nat} {a : Addr} {c : Cell} {ys : List V} {es : List PyData} (S : SR K R G0 G H env σ tmp) (hO : OwnS env σ i a) (hc : c = .ow es ∨ (c = .io es ∧ ∃ ds', env[i]? = some (.io ds'))) (r : RpAll K G ys es) (H' : Hp) (hH : H' = upd H a (.lst ys)) :
    SR K R G0 G H' (env.set i c) σ tmp := by
  subst hH
  have f := S.free i a hO
  have li : i < env.length := by
    obtain ⟨⟨ds, q⟩, _⟩ := hO
    rcases q with q | q <;> exact (List.getElem?_eq_some_iff.mp q).1
  have own' : ∀ j b, OwnS (env.set i c) σ j b → OwnS env σ j b := fun j b ⟨⟨us, q⟩, q2⟩ => by
    rcases q with q | q <;> rcases getElem?_set_cases q with ⟨z, _, _⟩ | ⟨hj, z⟩
    · subst z
      exact ⟨hO.1, q2⟩
    · exact ⟨⟨us, .inl z⟩, q2⟩
    · subst z
      exact ⟨hO.1, q2⟩
    · exact ⟨⟨us, .inr z⟩, q2⟩
  have off : ∀ b o, b ≠ a → H b = some o → upd H a (.lst ys) b = some o := fun b o n z => by
    rw [upd_ne n]
    exact z
  refine ⟨fun b o z => off b o (fun q => ?_) (S.gh b o z), fun b o z => off b o (fun q => ?_) (S.rh b o z), S.g0, S.gr, by rw [List.length_set]; exact S.len, fun j k q => ?_, fun j b q => S.free j b (own' j b q), fun j k b q1 q2 => S.apart j k b (own' j b q1) (own' k b q2), fun q hq => ?_, S.freeT, S.nd, fun j b q => S.cross j b (own' j b q), fun j ds' q => ?_⟩
  · rw [q, f.1] at z
    cases z
  · rw [q, f.2] at z
    cases z
  · rcases getElem?_set_cases q with ⟨z1, z, _⟩ | ⟨hj, z⟩
    · subst z1
      subst z
      rcases hc with z | ⟨z, _⟩ <;> subst z
      · exact ⟨a, ys, hO.2, upd_same, r⟩
      · exact ⟨a, ys, hO.2, upd_same, r⟩
    · exact (S.slot j k z).keep (Same.refl _) fun b us hb e1 e2 => off b _ (fun w => hj (S.apart j i a (w ▸ ⟨by
        obtain ⟨ds, w2⟩ := hb
        rcases w2 with w2 | w2
        · exact ⟨ds, .inl (w2 ▸ z)⟩
        · exact ⟨ds, .inr (w2 ▸ z)⟩, e1⟩) hO)) e2
  · refine (S.tm q hq).keep (Same.refl _) fun b us hb e1 e2 => off b _ (fun w => ?_) e2
    obtain ⟨es', hb⟩ := hb
    refine S.cross i a hO ?_
    obtain ⟨o, w'⟩ := q
    have hb : o = .ow es' := hb
    have e1 : w' = .ref b := e1
    subst hb
    subst e1
    subst w
    have mem_own : ∀ {t : Tmp}, (Opd.ow es', V.ref b) ∈ t → b ∈ ownT t := by
      intro t
      induction t with
      | nil => intro z; cases z
      | cons q t ih =>
        intro z
        rcases List.mem_cons.mp z with z | z
        · subst z
          exact List.mem_cons_self
        · exact ownT_sub b (ih z)
    exact mem_own hq
  · rcases getElem?_set_cases q with ⟨z1, z, _⟩ | ⟨hj, z⟩
    · subst z1
      rcases hc with z2 | ⟨_, ds2, z3⟩
      · rw [z2] at z
        cases z
      · exact S.iod _ _ z3
    · exact S.iod _ _ z
def NoSl (t : Tmp) : Prop := ∀ p ∈ t, ∀ i, p.1 ≠ .sl i
def Opd.cell : Opd → Cell
  | .va d => .va d
  | .ow ds => .ow ds
  | .sl _ => .no
/-- a value is stored -/
theorem SR.store {i : Nat} {o : Opd} (S : SR K R G0 G H env σ ((o, v) :: tmp)) (hn : NoSl tmp) (hi : i < env.length) (ho : ∀ j, o ≠ .sl j) : SR K R G0 G H (env.set i o.cell) (σ.set i (some v)) tmp := by
  have T := S.pop
  have hσ : i < σ.length := by rw [← S.len]; exact hi
  have hv : OpdR K G H σ o v := S.tm _ List.mem_cons_self
  have own' : ∀ j b, OwnS (env.set i o.cell) (σ.set i (some v)) j b → (j ≠ i ∧ OwnS env σ j b) ∨ (j = i ∧ v = .ref b ∧ b ∈ ownT ((o, v) :: tmp) ∧ b ∉ ownT tmp) := fun j b ⟨⟨us, q⟩, q2⟩ => by
    by_cases hj : j = i
    · subst hj
      rw [List.getElem?_set_self hσ] at q2
      have e1 : v = .ref b := Option.some.inj (Option.some.inj q2)
      rw [List.getElem?_set_self hi] at q
      refine .inr ⟨rfl, e1, ?_⟩
      have nd := S.nd
      subst e1
      cases o with
      | va d => rcases q with q | q <;> cases q
      | sl k => rcases q with q | q <;> cases q
      | ow es =>
        rw [ownT_ow] at nd ⊢
        exact ⟨List.mem_cons_self, (List.nodup_cons.mp nd).1⟩
    · rw [List.getElem?_set_ne (Ne.symm hj)] at q q2
      exact .inl ⟨hj, ⟨us, q⟩, q2⟩
  refine ⟨T.gh, T.rh, T.g0, T.gr, by rw [List.length_set, List.length_set]; exact T.len, fun j c q => ?_, fun j b q => ?_, fun j k b q1 q2 => ?_, fun q hq => ?_, T.freeT, T.nd, fun j b q => ?_, iod_set T.iod fun _ z => by cases o <;> cases z⟩
  · rcases getElem?_set_cases q with ⟨z1, z, _⟩ | ⟨hj, z⟩
    · subst z1
      subst z
      rw [List.getElem?_set_self hσ]
      cases o with
      | va d => exact ⟨v, rfl, hv⟩
      | ow es =>
        obtain ⟨a, xs, e1, e2, r⟩ := hv
        exact ⟨a, xs, by rw [e1], e2, r⟩
      | sl k => trivial
    · rw [List.getElem?_set_ne (Ne.symm hj)]
      exact T.slot j c z
  · rcases own' j b q with ⟨_, z⟩ | ⟨_, _, z, _⟩
    · exact T.free j b z
    · exact S.freeT b z
  · rcases own' j b q1 with ⟨n1, z1⟩ | ⟨e1, v1, z1, w1⟩ <;> rcases own' k b q2 with ⟨n2, z2⟩ | ⟨e2, v2, z2, w2⟩
    · exact T.apart j k b z1 z2
    · exact absurd z2 (S.cross j b z1)
    · exact absurd z1 (S.cross k b z2)
    · rw [e1, e2]
  · have h1 := T.tm q hq
    obtain ⟨oq, vq⟩ := q
    cases oq with
    | va d => exact h1
    | ow es => exact h1
    | sl k => exact absurd rfl (hn _ hq k)
  · rcases own' j b q with ⟨_, z⟩ | ⟨_, _, _, w⟩
    · exact T.cross j b z
    · exact w
/-- a name is forgotten, its list goes on its way -/
theorem SR.move {i : Nat} (S : SR K R G0 G H env σ ((.sl i, v) :: tmp)) (h : env[i]? = some (.ow ds)) : SR K R G0 G H (env.set i .no) σ ((.ow ds, v) :: tmp) := by
  obtain ⟨a, xs, e, e2, r⟩ := S.slot i _ h
  have ev : σ[i]? = some (some v) := S.tm _ List.mem_cons_self
  rw [e] at ev
  cases ev
  have hO : OwnS env σ i a := ⟨⟨ds, .inl h⟩, e⟩
  have T := S.pop
  have w : ∀ j b, OwnS (env.set i .no) σ j b → OwnS env σ j b ∧ j ≠ i := fun j b ⟨⟨es, q⟩, q2⟩ => by
    rcases q with q | q <;> rcases getElem?_set_cases q with ⟨_, z, _⟩ | ⟨hj, z⟩
    · cases z
    · exact ⟨⟨⟨es, .inl z⟩, q2⟩, hj⟩
    · cases z
    · exact ⟨⟨⟨es, .inr z⟩, q2⟩, hj⟩
  refine ⟨T.gh, T.rh, T.g0, T.gr, by rw [List.length_set]; exact T.len, fun j c q => ?_, fun j b q => T.free j b (w j b q).1, fun j k b q1 q2 => T.apart j k b (w j b q1).1 (w k b q2).1, fun q hq => ?_, fun b hb => ?_, ?_, fun j b q hb => ?_, iod_no T.iod fun _ z => nomatch z⟩
  · rcases getElem?_set_cases q with ⟨_, z, _⟩ | ⟨_, z⟩
    · subst z
      trivial
    · exact T.slot j c z
  · rcases List.mem_cons.mp hq with z | z
    · subst z
      exact ⟨a, xs, rfl, e2, r⟩
    · exact T.tm q z
  · rw [ownT_ow] at hb
    rcases List.mem_cons.mp hb with z | z
    · subst z
      exact T.free i b hO
    · exact T.freeT b z
  · rw [ownT_ow]
    exact List.nodup_cons.mpr ⟨T.cross i a hO, T.nd⟩
  · rw [ownT_ow] at hb
    rcases List.mem_cons.mp hb with z | z
    · subst z
      exact (w j b q).2 (T.apart j i b (w j b q).1 hO)
    · exact T.cross j b (w j b q).1 z

/-! ### what a value on its way is, now -/
def res (env : EnvD) : Opd → Option PyData
  | .va d => some d
  | .ow ds => some (.list ds)
  | .sl i => match env[i]? with
    | some (.ow ds) => some (.list ds)
    | some (.io ds) => some (.list ds)
    | some (.va d) => some d
    | _ => none
theorem SR.res {o : Opd} (S : SR K R G0 G H env σ tmp) (h : OpdR K G H σ o v) (e : res env o = some d) : Rp K H v d := by
  cases o with
  | va d' =>
    cases e
    exact Rp.mono S.gh h
  | ow ds =>
    cases e
    obtain ⟨a, xs, e1, e2, r⟩ := h
    subst e1
    exact .lst e2 (r.mono S.gh)
  | sl i =>
    have h : σ[i]? = some (some v) := h
    unfold Pd.res at e
    dsimp only at e
    split at e
    · rename_i ds q
      cases e
      obtain ⟨a, xs, e1, e2, r⟩ := S.slot i _ q
      rw [h] at e1
      cases e1
      exact .lst e2 (r.mono S.gh)
    · rename_i ds q
      cases e
      obtain ⟨a, xs, e1, e2, r⟩ := S.slot i _ q
      rw [h] at e1
      cases e1
      exact .lst e2 (r.mono S.gh)
    · rename_i d' q
      cases e
      obtain ⟨u, e1, r⟩ := S.slot i _ q
      rw [h] at e1
      cases e1
      exact r.mono S.gh
    · cases e
/-- a list, its items known to stay -/
theorem SR.resL {o : Opd} (S : SR K R G0 G H env σ tmp) (h : OpdR K G H σ o v) (e : Pd.res env o = some (.list ds)) : ∃ a xs, v = .ref a ∧ H a = some (.lst xs) ∧ RpAll K G xs ds := by
  cases o with
  | va d' =>
    cases e
    have h : Rp K G v (.list ds) := h
    cases h with
    | lst e1 r => exact ⟨_, _, rfl, S.gh _ _ e1, r⟩
  | ow ds' =>
    cases e
    exact h
  | sl i =>
    have h : σ[i]? = some (some v) := h
    unfold Pd.res at e
    dsimp only at e
    split at e
    · rename_i ds' q
      cases e
      obtain ⟨a, xs, e1, e2, r⟩ := S.slot i _ q
      rw [h] at e1
      cases e1
      exact ⟨a, xs, rfl, e2, r⟩
    · rename_i ds' q
      cases e
      obtain ⟨a, xs, e1, e2, r⟩ := S.slot i _ q
      rw [h] at e1
      cases e1
      exact ⟨a, xs, rfl, e2, r⟩
    · rename_i d' q
      cases e
      obtain ⟨u, e1, r⟩ := S.slot i _ q
      rw [h] at e1
      cases e1
      cases r with
      | lst e2 r => exact ⟨_, _, rfl, S.gh _ _ e2, r⟩
    · cases e
/-- a value that is not one's own list: it stays -/
theorem SR.resT {o : Opd} (S : SR K R G0 G H env σ tmp) (h : OpdR K G H σ o v) (e : Pd.res env o = some d) (hd : ∀ ds, d ≠ .list ds) : Rp K G v d := by
  cases o with
  | va d' =>
    cases e
    exact h
  | ow ds =>
    cases e
    exact absurd rfl (hd _)
  | sl i =>
    have h : σ[i]? = some (some v) := h
    unfold Pd.res at e
    dsimp only at e
    split at e
    · cases e
      exact absurd rfl (hd _)
    · cases e
      exact absurd rfl (hd _)
    · rename_i d' q
      cases e
      obtain ⟨u, e1, r⟩ := S.slot i _ q
      rw [h] at e1
      cases e1
      exact r
    · cases e
end
end Pd

/-! a small language of data: what the text's expressions and statements do, where they do it by the rules of one's own lists -/
namespace Pd
open PySem

inductive Bop where
  | add | sub | mul | fdiv | md | pow
inductive Cop where
  | lt | le | gt | ge | eq | ne
/-- built-in functions and types that are called -/
inductive Bi where
  | len | sum | max | min | abs | int | list | tuple | all | any | sorted | divmod | repr | bool
inductive Mut where
  | append | extend | pop
inductive Mth where
  | count | index
inductive Ty where
  | int | bool | str | list | tuple | dict
/-- what a call or an operation hands back -/
inductive Rv where
  | va (d : PyData) | ow (ds : List PyData)
def Rv.opd : Rv → Opd
  | .va d => .va d
  | .ow ds => .ow ds
def Rv.d : Rv → PyData
  | .va d => d
  | .ow ds => .list ds

mutual
inductive Ex where
  | cst (d : PyData)
  | var (i : Nat)
  | bin (o : Bop) (a b : Ex)
  | neg (a : Ex)
  | cmp (o : Cop) (a b : Ex)
  | chn (o p : Cop) (a b c : Ex)
  | isc (ng : Bool) (c : PyData) (a : Ex)
  | inn (ng : Bool) (a b : Ex)
  | and_ (a b : Ex)
  | or_ (a b : Ex)
  | not_ (a : Ex)
  | ite (c a b : Ex)
  | lst (es : Exs)
  | tup (es : Exs)
  | idx (a i : Ex)
  | slc (a : Ex) (lo hi : Eo)
  | rev (a : Ex)
  | call (f : Nat) (es ks : Exs) (pm : List Nat)
  | bi (b : Bi) (es : Exs)
  | isi (ts : List Ty) (a : Ex)
  | mut (m : Mut) (i : Nat) (es : Exs)
  | mth (m : Mth) (a b : Ex)
  | comp (el : Ex) (tg : Tg) (sr : Src) (ts : Exs) (own : List Nat)
  | reprL (es : Exs)
  | zipL (a b : Ex)
  | rngL (tp : Bool) (es : Exs)
inductive Exs where
  | nil
  | cons (e : Ex) (es : Exs)
inductive Eo where
  | no
  | yes (e : Ex)
inductive Src where
  | ex (e : Ex)
  | rng (es : Exs)
  | enum (e : Ex)
  | zip (a b : Ex)
inductive Tg where
  | nm (i : Nat)
  | tp (ts : Tgs)
  | sb (i : Nat) (ix : Ex)
inductive Tgs where
  | nil
  | cons (t : Tg) (ts : Tgs)
end

mutual
inductive Sm where
  | exp (e : Ex)
  | asg (i : Nat) (e : Ex) (mv : Bool)
  | asgT (tg : Tg) (e : Ex)
  | par (is : List Nat) (es : Exs)
  | ret (e : Ex)
  | retN
  | ite (c : Ex) (a b : Sms)
  | whl (c : Ex) (b : Sms)
  | for_ (tg : Tg) (sr : Src) (b : Sms)
  | stop
  | pass
inductive Sms where
  | nil
  | cons (s : Sm) (ss : Sms)
end

/-- what a def does: its first parameter may be changed (io) -/
structure Sig where
  io : Bool
  run : List PyData → Option (Rv × List PyData)
abbrev Tab := Nat → Option Sig

/-! ### what the operations do -/
def mulOk (i j : Int) : Bool := decide (i.natAbs.log2 + j.natAbs.log2 < 1000000)
def divOk (j : Int) : Bool := decide (0 < j) && decide (j.natAbs.log2 < 9000)
def binD : Bop → PyData → PyData → Option Rv
  | .add, .int i, .int j => some (.va (.int (i + j)))
  | .add, .list xs, .list ys => if xs.length + ys.length ≤ 16777216 then some (.ow (xs ++ ys)) else none
  | .add, .tuple xs, .tuple ys => if xs.length + ys.length ≤ 16777216 then some (.va (.tuple (xs ++ ys))) else none
  | .sub, .int i, .int j => some (.va (.int (i - j)))
  | .mul, .int i, .int j => if mulOk i j then some (.va (.int (i * j))) else none
  | .mul, .list xs, .int k => if -1000000 ≤ k ∧ k ≤ 1000000 ∧ xs.length * k.toNat ≤ 16777216 then some (.ow (List.replicate k.toNat xs).flatten) else none
  | .fdiv, .int i, .int j => if divOk j then some (.va (.int (i / j))) else none
  | .md, .int i, .int j => if 0 < j then some (.va (.int (i % j))) else none
  | .pow, .int i, .int j => if 0 ≤ j ∧ j ≤ 1000000 ∧ i.natAbs < 2 ^ 64 then some (.va (.int (i ^ j.toNat))) else none
  | _, _, _ => none
def cmpD : Cop → PyData → PyData → Option Bool
  | .lt, .int i, .int j => some (decide (i < j))
  | .le, .int i, .int j => some (decide (i ≤ j))
  | .gt, .int i, .int j => some (decide (j < i))
  | .ge, .int i, .int j => some (decide (j ≤ i))
  | .eq, .int i, .int j => some (decide (i = j))
  | .ne, .int i, .int j => some (!decide (i = j))
  | .eq, .str x, .str y => some (decide (x = y))
  | .ne, .str x, .str y => some (!decide (x = y))
  | .eq, d, e => if SeqAt.shaped d && SeqAt.shaped e then some (PyData.eqv d e) else none
  | .ne, d, e => if SeqAt.shaped d && SeqAt.shaped e then some (!PyData.eqv d e) else none
  | _, _, _ => none
/-- x is c (None, True, False) -/
def isD (ng : Bool) : PyData → PyData → Option Bool
  | .none, .none => some (!ng)
  | .none, _ => some ng
  | .bool b, .bool c => some (if ng then !decide (c = b) else decide (c = b))
  | _, _ => none
def allInts : List PyData → Option (List Int)
  | [] => some []
  | .int i :: r => (allInts r).map (i :: ·)
  | _ => none
def allBools : List PyData → Option (List Bool)
  | [] => some []
  | .bool b :: r => (allBools r).map (b :: ·)
  | _ => none
def items : PyData → Option (List PyData)
  | .list ds => some ds
  | .tuple ds => some ds
  | _ => none
def innD (ng : Bool) (x : PyData) (s : PyData) : Option Bool := match x, items s with
  | .int i, some ds => (allInts ds).map fun ns => if ng then !ns.contains i else ns.contains i
  | _, _ => none
/-- the place that i names -/
def ixD (n : Nat) (i : Int) : Option Nat := L2.ixN n i
def scrOf : PyData → Option (List Int)
  | .dict [(.none, .list ds)] => allInts ds
  | _ => none
def idxD : PyData → PyData → Option PyData
  | .list ds, .int i => (L2.atI ds i)
  | .tuple ds, .int i => (L2.atI ds i)
  | d, .int i => (scrOf d).bind fun ns => (L2.atI ns i).map .int
  | _, _ => none
def bnd : Option PyData → Option (Option Int)
  | none => some none
  | some (.int i) => some (some i)
  | _ => none
def cutD {α : Type} (xs : List α) (lo hi : Option Int) : List α := (xs.drop (HT.sIx xs.length 0 lo)).take (HT.sIx xs.length xs.length hi - HT.sIx xs.length 0 lo)
def slcD : PyData → Option Int → Option Int → Option Rv
  | .list ds, lo, hi => some (.ow (cutD ds lo hi))
  | .tuple ds, lo, hi => some (.va (.tuple (cutD ds lo hi)))
  | d, lo, hi => (scrOf d).bind fun ns => some (.ow ((cutD ns lo hi).map .int))
def rszs : List PyData → Nat := fun ds => ds.length
mutual
/-- a bound of the written form's length -/
def wsz : PyData → Nat
  | .none => 5
  | .bool _ => 5
  | .int i => i.natAbs.log2 + 3
  | .str x => 10 * x.length + 2
  | .list ds => wszs ds + 3
  | .tuple ds => wszs ds + 3
  | .dict _ => 100000000
def wszs : List PyData → Nat
  | [] => 0
  | d :: ds => wsz d + 2 + wszs ds
end
def reprOk (d : PyData) : Bool := d.canLay0 && d.showable && decide (d.depth ≤ 100) && decide (wsz d ≤ 16777216)
def maxI : List Int → Int
  | [] => 0
  | [x] => x
  | x :: y :: r => let m := maxI (y :: r); if x < m then m else x
def minI : List Int → Int
  | [] => 0
  | [x] => x
  | x :: y :: r => let m := minI (y :: r); if m < x then m else x
def insI (x : Int) : List Int → List Int
  | [] => [x]
  | y :: r => if x ≤ y then x :: y :: r else y :: insI x r
def sortI : List Int → List Int
  | [] => []
  | x :: r => insI x (sortI r)
def biD : Bi → List PyData → Option Rv
  | .len, [.list ds] => some (.va (.int ds.length))
  | .len, [.tuple ds] => some (.va (.int ds.length))
  | .len, [.str x] => if x.length ≤ 16777216 then some (.va (.int x.length)) else none
  | .len, [d] => (scrOf d).map fun ns => .va (.int ns.length)
  | .sum, [.list ds] => (allInts ds).map fun ns => .va (.int ns.sum)
  | .sum, [.tuple ds] => (allInts ds).map fun ns => .va (.int ns.sum)
  | .max, [.int i, .int j] => some (.va (.int (if i < j then j else i)))
  | .max, [.list ds] => (allInts ds).bind fun ns => if ns = [] then none else some (.va (.int (maxI ns)))

  | .min, [.int i, .int j] => some (.va (.int (if j < i then j else i)))
  | .min, [.list ds] => (allInts ds).bind fun ns => if ns = [] then none else some (.va (.int (minI ns)))
  | .abs, [.int i] => some (.va (.int (if i < 0 then -i else i)))
  | .int, [.int i] => some (.va (.int i))
  | .int, [.bool b] => some (.va (.int (if b then 1 else 0)))
  | .list, [.list ds] => some (.ow ds)
  | .list, [.tuple ds] => some (.ow ds)
  | .tuple, [.list ds] => some (.va (.tuple ds))
  | .tuple, [.tuple ds] => some (.va (.tuple ds))
  | .all, [.list ds] => (allBools ds).map fun bs => .va (.bool (bs.all id))
  | .any, [.list ds] => (allBools ds).map fun bs => .va (.bool (bs.any id))
  | .sorted, [.list ds] => (allInts ds).map fun ns => .ow ((sortI ns).map .int)
  | .divmod, [.int i, .int j] => if divOk j then some (.va (.tuple [.int (i / j), .int (i % j)])) else none
  | .repr, [d] => if reprOk d then some (.va (.str d.shown)) else none
  | _, _ => none
def tyD : PyData → Option Ty
  | .bool _ => some .bool
  | .int _ => some .int
  | .str _ => some .str
  | .list _ => some .list
  | .tuple _ => some .tuple
  | .none => none
  | .dict _ => none
def isTy : PyData → Ty → Bool
  | .bool _, .bool => true
  | .bool _, .int => true
  | .int _, .int => true
  | .str _, .str => true
  | .list _, .list => true
  | .tuple _, .tuple => true
  | _, _ => false
def plainD : PyData → Bool
  | .dict _ => false
  | _ => true
def sameK : PyData → PyData → Bool
  | .list _, .list _ => true
  | .tuple _, .tuple _ => true
  | _, _ => false
def mthD : Mth → PyData → PyData → Option PyData
  | .count, .list ds, .int i => (allInts ds).map fun ns => .int (ns.count i)

  | _, _, _ => none
/-- what a mutating method does: the list behind it, the answer -/
def mutD : Mut → List PyData → List PyData → Option (List PyData × PyData)
  | .append, ds, [x] => if ds.length < 16777216 then some (ds ++ [x], .none) else none
  | .extend, ds, [.list es] => if ds.length + es.length ≤ 16777216 then some (ds ++ es, .none) else none
  | .pop, ds, [] => (ds.getLast?).map fun x => (ds.dropLast, x)
  | .pop, ds, [.int i] => if -1000000000 ≤ i ∧ i ≤ 1000000000 then (L2.ixN ds.length i).bind fun j => (ds[j]?).map fun x => (ds.eraseIdx j, x) else none
  | _, _, _ => none

/-! ### the frame -/
/-- a value is taken into a list, a tuple, a call: from now on it stays -/
def frz (env : EnvD) : Opd → Option (PyData × EnvD)
  | .va d => some (d, env)
  | .ow ds => some (.list ds, env)
  | .sl i => match env[i]? with
    | some (.ow ds) => some (.list ds, env.set i (.va (.list ds)))
    | some (.va d) => some (d, env)
    | _ => none
def frzs : EnvD → List Opd → Option (List PyData × EnvD)
  | env, [] => some ([], env)
  | env, o :: r => (frz env o).bind fun p => (frzs p.2 r).bind fun q => some (p.1 :: q.1, q.2)
def ress (env : EnvD) : List Opd → Option (List PyData)
  | [] => some []
  | o :: r => (res env o).bind fun d => (ress env r).bind fun ds => some (d :: ds)
def isOwn (env : EnvD) (i : Nat) : Bool := match env[i]? with
  | some (.ow _) => true
  | some (.io _) => true
  | _ => false
def truth : Opd → Option Bool
  | .va (.bool b) => some b
  | _ => none
/-- places of the parameters among the values given -/
def perm {α : Type} (xs : List α) : List Nat → Option (List α)
  | [] => some []
  | j :: r => (xs[j]?).bind fun x => (perm xs r).bind fun ys => some (x :: ys)
def wipe1 (env : EnvD) : List Nat → EnvD
  | [] => env
  | i :: r => (wipe1 env r).set i .no
/-- the names that a comprehension hides come back -/
def back (old : EnvD) : List Nat → EnvD → Option EnvD
  | [], env => some env
  | i :: r, env => (back old r env).bind fun e => match old[i]? with
    | some (.va d) => some (e.set i (.va d))
    | some .no => some (e.set i .no)
    | _ => none
def ints3 (ds : List PyData) : Option (List Int) := match ds with
  | [.int b] => if -1000000000000 ≤ b ∧ b ≤ 1000000000000 then some ((List.range b.toNat).map fun (k : Nat) => (k : Int)) else none
  | [.int a, .int b] => if -1000000000000 ≤ a ∧ a ≤ 1000000000000 ∧ -1000000000000 ≤ b ∧ b ≤ 1000000000000 then some ((List.range (b - a).toNat).map fun (k : Nat) => a + (k : Int)) else none
  | [.int a, .int b, .int c] => if c = -1 ∧ -1000000000000 ≤ a ∧ a ≤ 1000000000000 ∧ -1000000000000 ≤ b ∧ b ≤ 1000000000000 then some ((List.range (a - b).toNat).map fun (k : Nat) => a - (k : Int)) else none
  | _ => none
def enumF : Nat → List PyData → List PyData
  | _, [] => []
  | k, d :: r => .tuple [.int k, d] :: enumF (k + 1) r
def zipF : List PyData → List PyData → List PyData
  | x :: xs, y :: ys => .tuple [x, y] :: zipF xs ys
  | _, _ => []
def zipD : PyData → PyData → Option (List PyData)
  | .list xs, .list ys => some (zipF xs ys)
  | .tuple xs, .tuple ys => some (zipF xs ys)
  | _, _ => none
def compL (tg : PyData → EnvD → Option EnvD) (ts : EnvD → Option (Bool × EnvD)) (el : EnvD → Option (PyData × EnvD)) (own : List Nat) : List PyData → EnvD → Option (List PyData × EnvD)
  | [], env => some ([], env)
  | d :: r, env => (tg d env).bind fun e1 => (ts e1).bind fun p => match p.1 with
    | true => (el p.2).bind fun q => (compL tg ts el own r (wipe1 q.2 own)).bind fun z => some (q.1 :: z.1, z.2)
    | false => compL tg ts el own r (wipe1 p.2 own)

/-- a def's work on values on their way -/
def callF (g : Sig) (pm : List Nat) (env : EnvD) (os : List Opd) : Option (Opd × EnvD) := match g.io with
  | false => (frzs env os).bind fun q => (perm q.1 pm).bind fun as => (g.run as).bind fun r => some (r.1.opd, q.2)
  | true => match os with
    | .sl i :: rs => if pm = List.range (rs.length + 1) then (frzs env rs).bind fun q => match q.2[i]? with
      | some (.ow ds) => (g.run (.list ds :: q.1)).bind fun r => some (r.1.opd, q.2.set i (.ow r.2))
      | some (.io ds) => (g.run (.list ds :: q.1)).bind fun r => some (r.1.opd, q.2.set i (.io r.2))
      | _ => none else none
    | .ow ds :: rs => if pm = List.range (rs.length + 1) then (frzs env rs).bind fun q => (g.run (.list ds :: q.1)).bind fun r => some (r.1.opd, q.2) else none
    | _ => none
section
variable (Γ : Tab)
mutual
def evE : Ex → EnvD → Option (Opd × EnvD)
  | .cst d, env => some (.va d, env)
  | .var i, env => match env[i]? with
    | some (.va d) => some (.va d, env)
    | some (.ow _) => some (.sl i, env)
    | some (.io _) => some (.sl i, env)
    | _ => none
  | .bin o a b, env => (evE a env).bind fun p => (evE b p.2).bind fun q => (res q.2 p.1).bind fun x => (res q.2 q.1).bind fun y => (binD o x y).bind fun r => some (r.opd, q.2)
  | .neg a, env => (evE a env).bind fun p => match p.1 with
    | .va (.int i) => some (.va (.int (-i)), p.2)
    | _ => none
  | .cmp o a b, env => (evE a env).bind fun p => (evE b p.2).bind fun q => (res q.2 p.1).bind fun x => (res q.2 q.1).bind fun y => (cmpD o x y).bind fun r => some (.va (.bool r), q.2)
  | .chn o o' a b c, env => (evE a env).bind fun p => (evE b p.2).bind fun q => (res q.2 p.1).bind fun x => (res q.2 q.1).bind fun y => (cmpD o x y).bind fun r => match r with
    | true => (evE c q.2).bind fun w => (res w.2 q.1).bind fun y => (res w.2 w.1).bind fun z => (cmpD o' y z).bind fun r => some (.va (.bool r), w.2)
    | false => some (.va (.bool false), q.2)
  | .isc ng c a, env => (evE a env).bind fun p => match p.1 with
    | .va d => (isD ng c d).bind fun r => some (.va (.bool r), p.2)
    | _ => none
  | .inn ng a b, env => (evE a env).bind fun p => (evE b p.2).bind fun q => (res q.2 p.1).bind fun x => (res q.2 q.1).bind fun y => (innD ng x y).bind fun r => some (.va (.bool r), q.2)
  | .and_ a b, env => (evE a env).bind fun p => (truth p.1).bind fun t => match t with
    | true => evE b p.2
    | false => some (.va (.bool false), p.2)
  | .or_ a b, env => (evE a env).bind fun p => (truth p.1).bind fun t => match t with
    | true => some (.va (.bool true), p.2)
    | false => evE b p.2
  | .not_ a, env => (evE a env).bind fun p => (truth p.1).bind fun t => some (.va (.bool (!t)), p.2)
  | .ite c a b, env => (evE c env).bind fun p => (truth p.1).bind fun t => match t with
    | true => evE a p.2
    | false => evE b p.2
  | .lst es, env => (evEs es env).bind fun p => (frzs p.2 p.1).bind fun q => if q.1.length ≤ 16777216 then some (.ow q.1, q.2) else none
  | .tup es, env => (evEs es env).bind fun p => (frzs p.2 p.1).bind fun q => if q.1.length ≤ 16777216 then some (.va (.tuple q.1), q.2) else none
  | .idx a i, env => (evE a env).bind fun p => (evE i p.2).bind fun q => (res q.2 p.1).bind fun x => (res q.2 q.1).bind fun y => (idxD x y).bind fun r => some (.va r, q.2)
  | .slc a lo hi, env => (evE a env).bind fun p => (evO lo p.2).bind fun q => (evO hi q.2).bind fun w => (res w.2 p.1).bind fun x => (slcD x q.1 w.1).bind fun r => some (r.opd, w.2)
  | .rev a, env => (evE a env).bind fun p => (res p.2 p.1).bind fun x => match x with
    | .list ds => some (.ow ds.reverse, p.2)
    | _ => none
  | .call f es ks pm, env => (evEs es env).bind fun p0 => (evEs ks p0.2).bind fun p => (Γ f).bind fun g => callF g pm p.2 (p0.1 ++ p.1)
  | .bi b es, env => (evEs es env).bind fun p => (ress p.2 p.1).bind fun ds => (biD b ds).bind fun r => some (r.opd, p.2)
  | .isi ts a, env => (evE a env).bind fun p => (res p.2 p.1).bind fun d => if plainD d && decide (ts.length ≤ 100) then some (.va (.bool (ts.any (isTy d))), p.2) else none
  | .mut m i es, env => if isOwn env i then (evEs es env).bind fun p => (frzs p.2 p.1).bind fun q => match q.2[i]? with
    | some (.ow ds) => (mutD m ds q.1).bind fun r => some (.va r.2, q.2.set i (.ow r.1))
    | some (.io ds) => (mutD m ds q.1).bind fun r => some (.va r.2, q.2.set i (.io r.1))
    | _ => none else none
  | .mth m a b, env => (evE a env).bind fun p => (res p.2 p.1).bind fun x0 => (evE b p.2).bind fun q => (res q.2 p.1).bind fun x => (res q.2 q.1).bind fun y => if sameK x0 x then (mthD m x y).bind fun r => some (.va r, q.2) else none
  | .comp el tg sr ts own, env => (evS sr env).bind fun p =>
      if p.1.length < 16777216 then
        (compL (fun d e => asgT tg d e) (fun e => evAll ts e) (fun e => (evE el e).bind fun r => frz r.2 r.1) own p.1 (wipe1 p.2 own)).bind fun q => (back p.2 own q.2).bind fun e => some (.ow q.1, e)
      else none
  | .reprL es, env => (evEs es env).bind fun p => (ress p.2 p.1).bind fun ds => if reprOk (.list ds) then some (.va (.str (PyData.list ds).shown), p.2) else none
  | .zipL a b, env => (evE a env).bind fun p => (evE b p.2).bind fun q => (res q.2 p.1).bind fun x => (res q.2 q.1).bind fun y => (zipD x y).bind fun r => some (.ow r, q.2)
  | .rngL tp es, env => (evEs es env).bind fun p => (ress p.2 p.1).bind fun ds => (ints3 ds).bind fun ns => if ns.length ≤ 16777216 then (match tp with
    | false => some (.ow (ns.map .int), p.2)
    | true => some (.va (.tuple (ns.map .int)), p.2)) else none
def evEs : Exs → EnvD → Option (List Opd × EnvD)
  | .nil, env => some ([], env)
  | .cons e es, env => (evE e env).bind fun p => (evEs es p.2).bind fun q => some (p.1 :: q.1, q.2)
def evO : Eo → EnvD → Option (Option Int × EnvD)
  | .no, env => some (none, env)
  | .yes e, env => (evE e env).bind fun p => match p.1 with
    | .va (.int i) => some (some i, p.2)
    | _ => none
/-- the tests of a comprehension, one after another -/
def evAll : Exs → EnvD → Option (Bool × EnvD)
  | .nil, env => some (true, env)
  | .cons e es, env => (evE e env).bind fun p => (truth p.1).bind fun t => match t with
    | true => evAll es p.2
    | false => some (false, p.2)
/-- what a loop walks; its items stay -/
def evS : Src → EnvD → Option (List PyData × EnvD)
  | .ex e, env => (evE e env).bind fun p => (frz p.2 p.1).bind fun q => (items q.1).bind fun ds => some (ds, q.2)
  | .rng es, env => (evEs es env).bind fun p => (ress p.2 p.1).bind fun ds => (ints3 ds).bind fun ns => some (ns.map .int, p.2)
  | .enum e, env => (evE e env).bind fun p => (frz p.2 p.1).bind fun q => (items q.1).bind fun ds => some (enumF 0 ds, q.2)
  | .zip a b, env => (evE a env).bind fun p => (evE b p.2).bind fun q => (frzs q.2 [p.1, q.1]).bind fun w => match w.1 with
    | [x, y] => (zipD x y).bind fun ds => some (ds, w.2)
    | _ => none
def asgT : Tg → PyData → EnvD → Option EnvD
  | .nm i, d, env => if i < env.length then some (env.set i (.va d)) else none
  | .tp ts, .tuple ds, env => asgTs ts ds env
  | .tp _, _, _ => none
  | .sb i ix, d, env => if isOwn env i then (evE ix env).bind fun p => match p.1, p.2[i]? with
    | .va (.int k), some (.ow ds) => (L2.ixN ds.length k).bind fun j => some (p.2.set i (.ow (ds.set j d)))
    | .va (.int k), some (.io ds) => (L2.ixN ds.length k).bind fun j => some (p.2.set i (.io (ds.set j d)))
    | _, _ => none else none
def asgTs : Tgs → List PyData → EnvD → Option EnvD
  | .nil, [], env => some env
  | .cons t ts, d :: ds, env => (asgT t d env).bind fun e => asgTs ts ds e
  | _, _, _ => none
end
end
end Pd

/-! statements; how a text is read into the small language -/
namespace Pd
open PySem

inductive Out where
  | nx (env : EnvD) | rt (r : Rv) (env : EnvD)
def whlL (c : EnvD → Option (Bool × EnvD)) (b : EnvD → Option Out) : Nat → EnvD → Option Out
  | 0, _ => none
  | n + 1, env => (c env).bind fun p => match p.1 with
    | true => (b p.2).bind fun o => match o with
      | .nx e => whlL c b n e
      | .rt r e => some (.rt r e)
    | false => some (.nx p.2)
def forL (tg : PyData → EnvD → Option EnvD) (b : EnvD → Option Out) : List PyData → EnvD → Option Out
  | [], env => some (.nx env)
  | d :: r, env => (tg d env).bind fun e => (b e).bind fun o => match o with
    | .nx e' => forL tg b r e'
    | .rt v e' => some (.rt v e')
/-- names read at the right of a parallel assignment: their lists stay from now on -/
def frzSl : EnvD → List Opd → Option (List Opd × EnvD)
  | env, [] => some ([], env)
  | env, .sl i :: r => (frz env (.sl i)).bind fun p => (frzSl p.2 r).bind fun q => some (.va p.1 :: q.1, q.2)
  | env, o :: r => (frzSl env r).bind fun q => some (o :: q.1, q.2)
def setAll : List Nat → List Opd → EnvD → Option EnvD
  | [], [], env => some env
  | i :: is, o :: os, env => if i < env.length then setAll is os (env.set i o.cell) else none
  | _, _, _ => none
section
variable (Γ : Tab) (n : Nat)
mutual
def exS : Sm → EnvD → Option Out
  | .exp e, env => (evE Γ e env).bind fun p => some (.nx p.2)
  | .asg i e mv, env => (evE Γ e env).bind fun p => if i < p.2.length then (match p.1 with
    | .sl j => match mv with
      | false => (frz p.2 (.sl j)).bind fun q => some (.nx (q.2.set i (.va q.1)))
      | true => match p.2[j]? with
        | some (.ow ds) => some (.nx ((p.2.set j .no).set i (.ow ds)))
        | _ => none
    | .va d => some (.nx (p.2.set i (.va d)))
    | .ow ds => some (.nx (p.2.set i (.ow ds)))) else none
  | .asgT tg e, env => (evE Γ e env).bind fun p => (frz p.2 p.1).bind fun q => (asgT Γ tg q.1 q.2).bind fun e => some (.nx e)
  | .par is es, env => (evEs Γ es env).bind fun p => (frzSl p.2 p.1).bind fun q => (setAll is q.1 q.2).bind fun e => some (.nx e)
  | .ret e, env => (evE Γ e env).bind fun p => match p.1 with
    | .va d => some (.rt (.va d) p.2)
    | .ow ds => some (.rt (.ow ds) p.2)
    | .sl j => match p.2[j]? with
      | some (.ow ds) => some (.rt (.ow ds) (p.2.set j .no))
      | _ => none
  | .retN, env => some (.rt (.va .none) env)
  | .ite c a b, env => (evE Γ c env).bind fun p => (truth p.1).bind fun t => match t with
    | true => exSs a p.2
    | false => exSs b p.2
  | .whl c b, env => whlL (fun e => (evE Γ c e).bind fun p => (truth p.1).bind fun t => some (t, p.2)) (fun e => exSs b e) n env
  | .for_ tg sr b, env => (evS Γ sr env).bind fun p => forL (fun d e => asgT Γ tg d e) (fun e => exSs b e) p.1 p.2
  | .stop, _ => none
  | .pass, env => some (.nx env)
def exSs : Sms → EnvD → Option Out
  | .nil, env => some (.nx env)
  | .cons s ss, env => (exS s env).bind fun o => match o with
    | .nx e => exSs ss e
    | .rt r e => some (.rt r e)
end
/-- the names at a def's entry -/
def env0 (io : Bool) (nl : Nat) (args : List PyData) : EnvD :=
  (match io, args with
    | true, .list ds :: r => .io ds :: r.map .va
    | _, _ => args.map .va) ++ List.replicate (nl - args.length) .no
def outD (io : Bool) (o : Out) : Option (Rv × List PyData) :=
  match o with
  | .nx e => match io with
    | false => some (.va .none, [])
    | true => match e[(0 : Nat)]? with
      | some (.io ds) => some (.va .none, ds)
      | _ => none
  | .rt r e => match io with
    | false => some (r, [])
    | true => match e[(0 : Nat)]? with
      | some (.io ds) => some (r, ds)
      | _ => none
def runD (io : Bool) (nl : Nat) (b : Sms) (args : List PyData) : Option (Rv × List PyData) := (exSs Γ n b (env0 io nl args)).bind (outD io)
end

mutual
/-- the places that a target stores -/
def tgIx : Tg → List Nat
  | .nm i => [i]
  | .tp ts => tgIxs ts
  | .sb _ _ => []
def tgIxs : Tgs → List Nat
  | .nil => []
  | .cons t ts => tgIx t ++ tgIxs ts
end
def tgPlain : Tg → Bool
  | .sb _ _ => false
  | _ => true
/-! ### the reading -/
structure FnI where
  name : Str
  ps : List Str
  shapes : List (Nat × List Str × List Nat)
structure CC where
  N : List Str
  sc : Scope
  ck : List Str
  fns : List FnI
  glb : List (Str × PyData)
  mv : List (Str × Str)
def okNm (x : Str) : Bool := !(x == ("__debug__" : Str)) && !(x == ("__classdict__" : Str))
def slot (c : CC) (x : Str) : Option Nat := match c.sc.names.lookup x with
  | some .local => if okNm x then c.N.idxOf? x else none
  | some .cell => if okNm x then c.N.idxOf? x else none
  | some .free => if okNm x then c.N.idxOf? x else none
  | _ => none
/-- a name that is stored -/
def slotS (c : CC) (x : Str) : Option Nat := match c.sc.names.lookup x with
  | some .local => c.N.idxOf? x
  | some .cell => if c.ck.contains x then c.N.idxOf? x else none
  | _ => none
def isGl (c : CC) (x : Str) : Bool := (match c.sc.names.lookup x with | some .globalImplicit => true | _ => false) && okNm x
def fnAt (x : Str) : List FnI → Nat → Option (Nat × FnI)
  | [], _ => none
  | f :: r, k => if f.name == x then some (k, f) else fnAt x r (k + 1)
def shapeAt (m : Nat) (ks : List Str) : List (Nat × List Str × List Nat) → Option (List Nat)
  | [] => none
  | (a, b, pm) :: r => if a == m && b == ks then some pm else shapeAt m ks r
def biTab : List (Str × Bi) := [("len", .len), ("sum", .sum), ("max", .max), ("min", .min), ("abs", .abs), ("int", .int), ("list", .list), ("tuple", .tuple), ("all", .all), ("any", .any), ("sorted", .sorted), ("divmod", .divmod), ("repr", .repr)]
def biOf (x : Str) : Option Bi := biTab.lookup x
def tyTab : List (Str × Ty) := [("int", .int), ("bool", .bool), ("str", .str), ("list", .list), ("tuple", .tuple), ("dict", .dict)]
def tyOf (x : Str) : Option Ty := tyTab.lookup x
def bopOf : Operator → Option Bop
  | .Add => some .add | .Sub => some .sub | .Mult => some .mul | .FloorDiv => some .fdiv | .Mod => some .md | .Pow => some .pow | _ => none
def copOf : CmpOp → Option Cop
  | .Lt => some .lt | .LtE => some .le | .Gt => some .gt | .GtE => some .ge | .Eq => some .eq | .NotEq => some .ne | _ => none
def cst : Const → Option PyData
  | .none => some .none | .bool b => some (.bool b) | .int i => some (.int i) | .str x => some (.str x) | _ => none
/-- the names that a target stores -/
def tgNames : Nat → Expr → Option (List Str)
  | 0, _ => none
  | _ + 1, .Name x _ => some [x]
  | n + 1, .Tuple es _ _ => (es.mapM (tgNames n)).map List.flatten
  | _, _ => none
def relS' (scope sc : Scope) : Scope := L2.relS scope sc
def tyNames (c : CC) : List Expr → Option (List Ty)
  | [] => some []
  | .Name x _ :: r => if isGl c x then (tyOf x).bind fun t => (tyNames c r).bind fun ts => some (t :: ts) else none
  | _ => none
def kwNames : List Keyword → Option (List Str)
  | [] => some []
  | ⟨some k, _, _⟩ :: r => (kwNames r).bind fun ks => some (k :: ks)
  | _ => none
def kwVals : List Keyword → List Expr
  | [] => []
  | ⟨_, e, _⟩ :: r => e :: kwVals r
def plainArgs : List Expr → Bool
  | [] => true
  | .Starred _ _ :: _ => false
  | _ :: r => plainArgs r

def cVar (c : CC) (x : Str) : Option Ex := match slot c x with
  | some i => some (.var i)
  | none => if isGl c x then (c.glb.lookup x).bind fun d => some (.cst d) else none
def noSet : Expr → Bool
  | .Set _ _ _ => false
  | _ => true
def inC (c : CC) (scope : Scope) : CC := { c with sc := L2.relS scope c.sc, ck := (scope.names.filter fun p => p.2 == .cell).map (·.1) }
mutual
def cE : Nat → CC → Expr → Option Ex
  | 0, _, _ => none
  | n + 1, c, e => match e with
    | .Constant v _ _ => (cst v).bind fun d => some (.cst d)
    | .Name x _ => cVar c x
    | .BinOp a op b _ => (bopOf op).bind fun o => (cE n c a).bind fun x => (cE n c b).bind fun y => some (.bin o x y)
    | .UnaryOp op a _ => (match op with
      | .USub => (cE n c a).bind fun x => some (.neg x)
      | .Not => (cE n c a).bind fun x => some (.not_ x)
      | _ => none)
    | .BoolOp op es p => cBl n c op es p
    | .IfExp t a b _ => (cE n c t).bind fun z => (cE n c a).bind fun x => (cE n c b).bind fun y => some (.ite z x y)
    | .Compare a ops bs _ => (match ops, bs with
      | [op], [b] => cCmp n c a op b
      | [op, op'], [b, d] => (copOf op).bind fun o => (copOf op').bind fun o' => (cE n c a).bind fun x => (cE n c b).bind fun y => (cE n c d).bind fun z => some (.chn o o' x y z)
      | _, _ => none)
    | .List es _ => if plainArgs es then (cEs n c es).bind fun xs => some (.lst xs) else none
    | .Tuple es _ _ => if plainArgs es then (cEs n c es).bind fun xs => some (.tup xs) else none
    | .Subscript a i _ => cSub n c a i
    | .ListComp elt gs scope _ => (match gs with
      | [⟨tg, iter, ifs, 0⟩] => cLc n c elt tg iter ifs scope
      | _ => none)
    | .Call f args kws cp => (match f with
      | .Name x _ => if isGl c x && plainArgs args then cNm n c x args kws else none
      | .Attribute (.Name x _) m ap => (match kws with
        | [] => if plainArgs args && (ap.endLine == cp.line) then cMt n c x m args else none
        | _ => none)
      | _ => none)
    | _ => none
def cBl : Nat → CC → BoolOp → List Expr → Pos → Option Ex
  | 0, _, _, _, _ => none
  | n + 1, c, op, es, p => match es with
    | [] => none
    | [a] => cE n c a
    | a :: b :: r => (match op with
      | .And => (cE n c a).bind fun x => (cBl n c .And (b :: r) p).bind fun y => some (.and_ x y)
      | .Or => (cE n c a).bind fun x => (cBl n c .Or (b :: r) p).bind fun y => some (.or_ x y))
def cCmp : Nat → CC → Expr → CmpOp → Expr → Option Ex
  | 0, _, _, _, _ => none
  | n + 1, c, a, op, b => match op with
    | .Is => (match b with
      | .Constant .none _ _ => (cE n c a).bind fun x => some (.isc false .none x)
      | .Constant (.bool k) _ _ => (cE n c a).bind fun x => some (.isc false (.bool k) x)
      | _ => none)
    | .IsNot => (match b with
      | .Constant .none _ _ => (cE n c a).bind fun x => some (.isc true .none x)
      | .Constant (.bool k) _ _ => (cE n c a).bind fun x => some (.isc true (.bool k) x)
      | _ => none)
    | .In => if behindInMarks .In b then none else (cE n c a).bind fun x => (cE n c b).bind fun y => some (.inn false x y)
    | .NotIn => if behindInMarks .NotIn b then none else (cE n c a).bind fun x => (cE n c b).bind fun y => some (.inn true x y)
    | op => (copOf op).bind fun o => (cE n c a).bind fun x => (cE n c b).bind fun y => some (.cmp o x y)
def cSub : Nat → CC → Expr → Expr → Option Ex
  | 0, _, _, _ => none
  | n + 1, c, a, i => match i with
    | .Slice lo hi st _ => (match st with
      | none => (cE n c a).bind fun x => (cO n c lo).bind fun l => (cO n c hi).bind fun h => some (.slc x l h)
      | some (.UnaryOp .USub (.Constant (.int 1) _ _) _) => (match lo, hi with
        | none, none => (cE n c a).bind fun x => some (.rev x)
        | _, _ => none)
      | _ => none)
    | i => (cE n c a).bind fun x => (cE n c i).bind fun y => some (.idx x y)
def cLc : Nat → CC → Expr → Expr → Expr → List Expr → Scope → Option Ex
  | 0, _, _, _, _, _, _ => none
  | n + 1, c, elt, tg, iter, ifs, scope => (tgNames 4 tg).bind fun xs => (xs.mapM fun x => c.N.idxOf? x).bind fun own =>
      if L2.blkC c.N c.sc scope (xs.zip own) && decide (xs.length = own.length) && decide (ifs.length ≤ 1) && noSet iter then
        (cSrc n c iter tg).bind fun s => (cT n (inC c scope) tg).bind fun t => (cEs n (inC c scope) ifs).bind fun ts => (cE n (inC c scope) elt).bind fun x => if (tgIx t).all (own.contains ·) then some (.comp x t s ts own) else none
      else none
def cNm : Nat → CC → Str → List Expr → List Keyword → Option Ex
  | 0, _, _, _, _ => none
  | n + 1, c, f, args, kws =>
    if f == ("isinstance" : Str) then (match kws, args with
      | [], [a, .Name t _] => if isGl c t then (tyOf t).bind fun ty => (cE n c a).bind fun x => some (.isi [ty] x) else none
      | [], [a, .Tuple es _ _] => (tyNames c es).bind fun tys => (cE n c a).bind fun x => some (.isi tys x)
      | _, _ => none)
    else match kws, args with
      | [], [.List es _] => if f == ("repr" : Str) then (if plainArgs es then (cEs n c es).bind fun xs => some (.reprL xs) else none) else cCall n c f args kws
      | [], [.Call (.Name g _) bs [] _] => if f == ("list" : Str) && g == ("range" : Str) then (if isGl c g && plainArgs bs then cRg n c false bs else none)
          else if f == ("tuple" : Str) && g == ("range" : Str) then (if isGl c g && plainArgs bs then cRg n c true bs else none)
          else cCall n c f args kws
      | _, _ => cCall n c f args kws
def cRg : Nat → CC → Bool → List Expr → Option Ex
  | 0, _, _, _ => none
  | n + 1, c, tp, bs => match bs with
    | [a] => (cE n c a).bind fun x => some (.rngL tp (.cons x .nil))
    | [a, b] => (cE n c a).bind fun x => (cE n c b).bind fun y => some (.rngL tp (.cons x (.cons y .nil)))
    | _ => none
def cMt : Nat → CC → Str → Str → List Expr → Option Ex
  | 0, _, _, _, _ => none
  | n + 1, c, x, m, args => (slot c x).bind fun i => match args with
    | [] => if m == ("pop" : Str) then some (.mut .pop i .nil) else none
    | [a] => (cE n c a).bind fun y =>
      if m == ("append" : Str) then some (.mut .append i (.cons y .nil))
      else if m == ("extend" : Str) then some (.mut .extend i (.cons y .nil))
      else if m == ("pop" : Str) then some (.mut .pop i (.cons y .nil))
      else if m == ("count" : Str) then some (.mth .count (.var i) y)
      else none
    | _ => none
def cEs : Nat → CC → List Expr → Option Exs
  | 0, _, _ => none
  | _ + 1, _, [] => some .nil
  | n + 1, c, e :: es => (cE n c e).bind fun x => (cEs n c es).bind fun xs => some (.cons x xs)
def cO : Nat → CC → Option Expr → Option Eo
  | 0, _, _ => none
  | _ + 1, _, none => some .no
  | n + 1, c, some e => (cE n c e).bind fun x => some (.yes x)
def cCall : Nat → CC → Str → List Expr → List Keyword → Option Ex
  | 0, _, _, _, _ => none
  | n + 1, c, f, args, kws => match fnAt f c.fns 0 with
    | some (k, g) => (kwNames kws).bind fun ks => (shapeAt args.length ks g.shapes).bind fun pm => (cEs n c args).bind fun xs => (cEs n c (kwVals kws)).bind fun ys => some (.call k xs ys pm)
    | none => match kws with
      | [] => (biOf f).bind fun b => (match args with
        | [] => none
        | _ => (cEs n c args).bind fun xs => some (.bi b xs))
      | _ => none
def cSrc : Nat → CC → Expr → Expr → Option Src
  | 0, _, _, _ => none
  | n + 1, c, e, tg => match e with
    | .Call (.Name f _) args [] _ => if isGl c f && plainArgs args then
        (if f == ("range" : Str) then (if decide (1 ≤ args.length ∧ args.length ≤ 3) then (cEs n c args).bind fun xs => some (.rng xs) else none)
        else if f == ("enumerate" : Str) then (match args, tg with
          | [a], .Tuple _ _ _ => (cE n c a).bind fun x => some (.enum x)
          | _, _ => none)
        else if f == ("zip" : Str) then (match args, tg with
          | [a, b], .Tuple _ _ _ => (cE n c a).bind fun x => (cE n c b).bind fun y => some (.zip x y)
          | _, _ => none)
        else (cE n c e).bind fun x => some (.ex x)) else none
    | e => (cE n c e).bind fun x => some (.ex x)
def cT : Nat → CC → Expr → Option Tg
  | 0, _, _ => none
  | n + 1, c, e => match e with
    | .Name x _ => (slotS c x).bind fun i => some (.nm i)
    | .Tuple es _ _ => if plainArgs es then (cTs n c es).bind fun ts => some (.tp ts) else none
    | .Subscript (.Name x _) (.Slice _ _ _ _) _ => none
    | .Subscript (.Name x _) ix _ => (slot c x).bind fun i => (cE n c ix).bind fun y => some (.sb i y)
    | _ => none
def cTs : Nat → CC → List Expr → Option Tgs
  | 0, _, _ => none
  | _ + 1, _, [] => some .nil
  | n + 1, c, e :: es => (cT n c e).bind fun t => (cTs n c es).bind fun ts => some (.cons t ts)
end
/-- names alone -/
def nameList : List Expr → Option (List Str)
  | [] => some []
  | .Name x _ :: r => (nameList r).bind fun xs => some (x :: xs)
  | _ => none
def isFnSc (sc : Scope) : Bool := match sc.kind with
  | .function => true
  | _ => false
def isComp : Expr → Bool
  | .ListComp _ _ _ _ => true
  | .SetComp _ _ _ _ => true
  | .DictComp _ _ _ _ _ => true
  | _ => false
/-- a comprehension's value is stored within it, or behind it -/
def swapOk (c : CC) (x : Str) (p lp : Pos) (scope : Scope) : Bool := isFnSc c.sc && (match c.sc.names.lookup x with
  | some .local => (p.line == lp.line) && !(scope.names.any fun (n, k) => n == x && (k == .local || k == .cell))
  | some .cell => true
  | _ => false)
/-- how a, b = x, y is stored -/
def swapR (sc : Scope) (ts vs : List Expr) : Option (Option (List Str)) :=
  if (!(ts.length == 2 || ts.length == 3) || vs.length != ts.length) = true then some none
  else if (vs.any fun | .Starred .. => true | _ => false) = true then some none
  else
    let line := (ts.head?.map (·.pos.line)).getD 0
    let names := ts.filterMap fun
      | .Name id pos => if sc.names.lookup id == some .local && pos.line == line then some id else none
      | _ => none
    if (names.length != ts.length || names.eraseDups.length != names.length) = true then some none
    else if vs.all (foldedForSure 8) = true then some none
    else if vs.all (constantsAlone 8) = true then none
    else some (some names)
mutual
def cS : Nat → CC → Stmt → Option Sm
  | 0, _, _ => none
  | n + 1, c, s => match s with
    | .Expr e _ => if isComp e then none else (cE 60 c e).bind fun x => some (.exp x)
    | .Assign tgs e q => (match tgs with
      | [.Name x p] => (slotS c x).bind fun i => (match e with
        | .ListComp _ gs scope lp => if swapOk c x p lp scope then (cE 60 c e).bind fun y => some (.asg i y false) else none
        | .Name z _ => (cE 60 c e).bind fun y => some (.asg i y (c.mv.contains (x, z)))
        | e => if isComp e then none else (cE 60 c e).bind fun y => some (.asg i y false))
      | [.Tuple ts k p] => (match e with
        | .Tuple vs _ _ => if plainArgs vs && isFnSc c.sc then (nameList ts).bind fun xs => (swapR c.sc ts vs).bind fun sw => if decide xs.Nodup && decide (xs.length = vs.length) && decide (xs.length ≤ 100) then (xs.mapM (slotS c)).bind fun is => (cEs 60 c vs).bind fun es => some (.par is es) else none
          else none
        | e => if isComp e then none else (cT 60 c (.Tuple ts k p)).bind fun t => (cE 60 c e).bind fun y => some (.asgT t y))
      | [.Subscript o ix p] => if isComp e then none else (cT 60 c (.Subscript o ix p)).bind fun t => (cE 60 c e).bind fun y => some (.asgT t y)
      | _ => none)
    | .Return v _ => (match v with
      | some e => (cE 60 c e).bind fun x => some (.ret x)
      | none => some .retN)
    | .If t a b _ => (cE 60 c t).bind fun z => (cSs n c a).bind fun x => (cSs n c b).bind fun y => some (.ite z x y)
    | .While t b o _ => (match o with
      | [] => (cE 60 c t).bind fun z => (cSs n c b).bind fun x => some (.whl z x)
      | _ => none)
    | .For tg it b o _ => (match o with
      | [] => if noSet it then (cSrc 60 c it tg).bind fun s => (cT 60 c tg).bind fun t => (cSs n c b).bind fun x => some (.for_ t s x) else none
      | _ => none)
    | .Raise _ _ _ => some .stop
    | .Pass _ => some .pass
    | _ => none
def cSs : Nat → CC → List Stmt → Option Sms
  | 0, _, _ => none
  | _ + 1, _, [] => some .nil
  | n + 1, c, s :: ss => (cS n c s).bind fun x => (cSs n c ss).bind fun xs => some (.cons x xs)
end
end Pd

/-! the small language's operations are the text's -/
namespace Pd
open PySem PySem.Spec PyProof.Rows L2

def TEok (K : PySem.W.Frag) (t : TE) (f : EnvD → Option (Opd × EnvD)) : Prop :=
  ∀ (R : RR) (G0 G H : Hp) (env : EnvD) (σ : L2.St) (tmp : Tmp) (o : Opd) (env' : EnvD) (Q : VK), SR K R G0 G H env σ tmp → f env = some (o, env') → (∀ v G' H', Same G G' → SR K R G0 G' H' env' σ ((o, v) :: tmp) → Q v H') → t σ H Q
def TTok (K : PySem.W.Frag) (t : TT) (f : EnvD → Option (Bool × EnvD)) : Prop :=
  ∀ (R : RR) (G0 G H : Hp) (env : EnvD) (σ : L2.St) (tmp : Tmp) (b : Bool) (env' : EnvD) (Q : Bool → Hp → Prop), SR K R G0 G H env σ tmp → f env = some (b, env') → (∀ G' H', Same G G' → SR K R G0 G' H' env' σ tmp → Q b H') → t σ H Q
def TAok (K : PySem.W.Frag) (t : TA) (f : EnvD → Option (List Opd × EnvD)) : Prop :=
  ∀ (R : RR) (G0 G H : Hp) (env : EnvD) (σ : L2.St) (tmp : Tmp) (os : List Opd) (env' : EnvD) (Q : List V → Hp → Prop), SR K R G0 G H env σ tmp → f env = some (os, env') → (∀ vs G' H', os.length = vs.length → Same G G' → SR K R G0 G' H' env' σ (os.zip vs ++ tmp) → Q vs H') → t σ H Q
def TOok (K : PySem.W.Frag) (t : TO) (f : EnvD → Option (Option Int × EnvD)) : Prop :=
  ∀ (R : RR) (G0 G H : Hp) (env : EnvD) (σ : L2.St) (tmp : Tmp) (o : Option Int) (env' : EnvD) (Q : Option Int → Hp → Prop), SR K R G0 G H env σ tmp → f env = some (o, env') → (∀ G' H', Same G G' → SR K R G0 G' H' env' σ tmp → Q o H') → t σ H Q
/-- a two-place operation on values -/
def OpOk (K : PySem.W.Frag) (r : R2) (f : PyData → PyData → Option Rv) : Prop :=
  ∀ (R : RR) (G0 G H : Hp) (env : EnvD) (σ : L2.St) (tmp : Tmp) (o1 o2 : Opd) (v1 v2 : V) (d1 d2 : PyData) (z : Rv) (Q : VK), SR K R G0 G H env σ tmp → OpdR K G H σ o1 v1 → OpdR K G H σ o2 v2 → res env o1 = some d1 → res env o2 = some d2 → f d1 d2 = some z →
    (∀ v G' H', Same G G' → SR K R G0 G' H' env σ ((z.opd, v) :: tmp) → Q v H') → r v1 v2 H Q
/-- a call on values -/
def CallOk (K : PySem.W.Frag) (r : List V → Hp → VK → Prop) (f : List PyData → Option Rv) : Prop :=
  ∀ (R : RR) (G0 G H : Hp) (env : EnvD) (σ : L2.St) (tmp : Tmp) (os : List Opd) (vs : List V) (ds : List PyData) (z : Rv) (Q : VK), SR K R G0 G H env σ (os.zip vs ++ tmp) → os.length = vs.length → ress env os = some ds → f ds = some z →
    (∀ v G' H', Same G G' → SR K R G0 G' H' env σ ((z.opd, v) :: tmp) → Q v H') → r vs H Q

section
variable {K : PySem.W.Frag} {R : RR} {G0 G H : Hp} {env env' : EnvD} {σ : L2.St} {tmp : Tmp} {o : Opd} {v : V} {d : PyData}

theorem SR.drop2 {p q r : Opd × V} (S : SR K R G0 G H env σ (p :: q :: r :: tmp)) : SR K R G0 G H env σ (p :: tmp) :=
  S.sub ((List.Sublist.cons _ (List.Sublist.cons _ (List.Sublist.refl tmp))).cons₂ p)
theorem SR.drop1 {p q : Opd × V} (S : SR K R G0 G H env σ (p :: q :: tmp)) : SR K R G0 G H env σ (p :: tmp) :=
  S.sub ((List.Sublist.cons _ (List.Sublist.refl tmp)).cons₂ p)
theorem SR.top {p : Opd × V} (S : SR K R G0 G H env σ (p :: tmp)) : OpdR K G H σ p.1 p.2 := S.tm _ List.mem_cons_self
theorem SR.under {p q : Opd × V} (S : SR K R G0 G H env σ (p :: q :: tmp)) : OpdR K G H σ q.1 q.2 := S.tm _ (List.mem_cons_of_mem _ List.mem_cons_self)

theorem ok_cst {c : V} (h : ∀ G, Rp K G c d) : TEok K (tC c) (fun env => some (.va d, env)) := by
  intro R G0 G H env σ tmp o env' Q S e q
  cases e
  exact q c G H (Same.refl _) (S.pushVa (h G))
theorem ok_var {i : Nat} : TEok K (tVar i) (fun env => match env[i]? with
    | some (.va d) => some (.va d, env)
    | some (.ow _) => some (.sl i, env)
    | some (.io _) => some (.sl i, env)
    | _ => none) := by
  intro R G0 G H env σ tmp o env' Q S e q
  dsimp only at e
  split at e
  · rename_i d h
    cases e
    obtain ⟨v, e1, r⟩ := S.slot i _ h
    exact ⟨v, e1, q v G H (Same.refl _) (S.pushVa r)⟩
  · rename_i ds h
    cases e
    obtain ⟨a, xs, e1, e2, r⟩ := S.slot i _ h
    exact ⟨_, e1, q _ G H (Same.refl _) (S.pushSl e1)⟩
  · rename_i ds h
    cases e
    obtain ⟨a, xs, e1, e2, r⟩ := S.slot i _ h
    exact ⟨_, e1, q _ G H (Same.refl _) (S.pushSl e1)⟩
  · cases e

theorem ok_op {r : R2} {f : PyData → PyData → Option Rv} {ta tb : TE} {fa fb : EnvD → Option (Opd × EnvD)} (hr : OpOk K r f) (ha : TEok K ta fa) (hb : TEok K tb fb) :
    TEok K (tOp r ta tb) (fun env => (fa env).bind fun p => (fb p.2).bind fun q => (res q.2 p.1).bind fun x => (res q.2 q.1).bind fun y => (f x y).bind fun r => some (r.opd, q.2)) := by
  intro R G0 G H env σ tmp o env' Q S e q
  simp only [Option.bind_eq_some_iff] at e
  obtain ⟨⟨o1, e1⟩, h1, ⟨o2, e2⟩, h2, d1, r1, d2, r2, z, hz, e⟩ := e
  cases e
  refine ha _ _ _ _ _ _ _ _ _ _ S h1 fun v1 G1 H1 g1 S1 => ?_
  refine hb _ _ _ _ _ _ _ _ _ _ S1 h2 fun v2 G2 H2 g2 S2 => ?_
  exact hr _ _ _ _ _ _ _ _ _ _ _ _ _ _ _ S2 S2.under S2.top r1 r2 hz fun v G' H' g S3 => q v G' H' (g1.trans (g2.trans g)) S3.drop2
/-- an operation whose answer is a truth value -/
theorem ok_opB {r : R2} {f : PyData → PyData → Option Bool} {ta tb : TE} {fa fb : EnvD → Option (Opd × EnvD)} (hr : OpOk K r (fun x y => (f x y).map fun b => .va (.bool b))) (ha : TEok K ta fa) (hb : TEok K tb fb) :
    TEok K (tOp r ta tb) (fun env => (fa env).bind fun p => (fb p.2).bind fun q => (res q.2 p.1).bind fun x => (res q.2 q.1).bind fun y => (f x y).bind fun r => some (.va (.bool r), q.2)) := by
  intro R G0 G H env σ tmp o env' Q S e q
  refine ok_op hr ha hb _ _ _ _ _ _ _ _ _ _ S ?_ q
  simp only [Option.bind_eq_some_iff] at e ⊢
  obtain ⟨p1, h1, p2, h2, d1, r1, d2, r2, z, hz, e⟩ := e
  exact ⟨p1, h1, p2, h2, d1, r1, d2, r2, .va (.bool z), by rw [hz]; rfl, e⟩

theorem OpOk.or {r r' : R2} {f g : PyData → PyData → Option Rv} (h : OpOk K r f) (h' : OpOk K r' g) (hfg : ∀ x y z, g x y = some z → f x y = none) : OpOk K (fun x y H Q => r x y H Q ∨ r' x y H Q) (fun x y => (f x y).or (g x y)) := by
  intro R G0 G H env σ tmp o1 o2 v1 v2 d1 d2 z Q S t1 t2 e1 e2 e q
  cases hf : f d1 d2 with
  | some w =>
    simp only [hf, Option.or_some] at e
    cases e
    exact .inl (h _ _ _ _ _ _ _ _ _ _ _ _ _ _ _ S t1 t2 e1 e2 hf q)
  | none =>
    simp only [hf, Option.none_or] at e
    exact .inr (h' _ _ _ _ _ _ _ _ _ _ _ _ _ _ _ S t1 t2 e1 e2 e q)
theorem OpOk.imp {r : R2} {f g : PyData → PyData → Option Rv} (h : OpOk K r f) (e : ∀ x y z, g x y = some z → f x y = some z) : OpOk K r g := by
  intro R G0 G H env σ tmp o1 o2 v1 v2 d1 d2 z Q S t1 t2 e1 e2 hz q
  exact h _ _ _ _ _ _ _ _ _ _ _ _ _ _ _ S t1 t2 e1 e2 (e _ _ _ hz) q

theorem Rp.intI {i : Int} (h : Rp K G v (.int i)) : v = .int i := by cases h; rfl
theorem Rp.boolI {b : Bool} (h : Rp K G v (.bool b)) : v = .bl b := by cases h; rfl
theorem Rp.noneI (h : Rp K G v .none) : v = .non := by cases h; rfl
theorem Rp.strI {x : Str} (h : Rp K G v (.str x)) : v = .str x := by cases h; rfl
theorem Rp.listI {ds : List PyData} (h : Rp K G v (.list ds)) : ∃ a xs, v = .ref a ∧ G a = some (.lst xs) ∧ RpAll K G xs ds := by cases h; exact ⟨_, _, rfl, by assumption, by assumption⟩
theorem Rp.tupI {ds : List PyData} (h : Rp K G v (.tuple ds)) : ∃ a xs, v = .ref a ∧ G a = some (.tup xs) ∧ RpAll K G xs ds := by cases h; exact ⟨_, _, rfl, by assumption, by assumption⟩

/-- ints -/
theorem ok_ints {r : R2} {f : PyData → PyData → Option Rv} (h : ∀ (x y : PyData) (z : Rv), f x y = some z → ∃ i j d, x = .int i ∧ y = .int j ∧ z = .va d ∧ ∀ H Q, (∀ v, (∀ G, Rp K G v d) → Q v H) → r (.int i) (.int j) H Q) : OpOk K r f := by
  intro R G0 G H env σ tmp o1 o2 v1 v2 d1 d2 z Q S t1 t2 e1 e2 hz q
  obtain ⟨i, j, d, rfl, rfl, rfl, hh⟩ := h _ _ _ hz
  have z1 := (S.res t1 e1).intI
  have z2 := (S.res t2 e2).intI
  subst z1
  subst z2
  exact hh H Q fun v hv => q v G H (Same.refl _) (S.pushVa (hv G))

theorem line_eq : sizeLine = 16777216 := sizeLine_eq

def rAddD (K : PySem.W.Frag) : R2 := fun x y H Q => (rI0 (fun i j => .int (i + j)) x y H Q ∨ rCat x y H Q) ∨ rCatA K x y H Q
theorem ok_add : OpOk K (rAddD K) (binD .add) := by
  intro R G0 G H env σ tmp o1 o2 v1 v2 d1 d2 z Q S t1 t2 e1 e2 hz q
  have hl := line_eq
  unfold binD at hz
  split at hz <;> try contradiction
  · cases hz
    have z1 := (S.res t1 e1).intI
    have z2 := (S.res t2 e2).intI
    subst z1
    subst z2
    exact .inl (.inl ⟨_, _, rfl, rfl, q _ G H (Same.refl _) (S.pushVa (.int _))⟩)
  · rename_i xs ys
    split at hz
    · rename_i hle
      cases hz
      obtain ⟨a, us, rfl, ha, ra⟩ := S.resL t1 e1
      obtain ⟨b, ws, rfl, hb, rb⟩ := S.resL t2 e2
      refine .inl (.inr ⟨a, b, us, ws, rfl, rfl, ha, hb, by rw [ra.len, rb.len, hl]; exact hle, fun p hp => ?_⟩)
      exact q _ G _ (Same.refl _) (S.newL hp (ra.app rb))
    · cases hz
  · rename_i xs ys
    split at hz
    · rename_i hle
      cases hz
      have T1 := S.resT t1 e1 (fun ds => by intro z; cases z)
      have T2 := S.resT t2 e2 (fun ds => by intro z; cases z)
      obtain ⟨a, us, rfl, ha, ra⟩ := T1.tupI
      obtain ⟨b, ws, rfl, hb, rb⟩ := T2.tupI
      refine .inr ⟨a, b, us, ws, rfl, rfl, SqT.of (S.gh _ _ ha), SqT.of (S.gh _ _ hb), by rw [ra.len, rb.len, hl]; exact hle, fun e => ?_, fun _ e => ?_, fun _ _ p hp => ?_⟩
      · subst e
        cases ra
        exact q _ G H (Same.refl _) (S.pushVa T2)
      · subst e
        cases rb
        rw [List.append_nil] at q
        exact q _ G H (Same.refl _) (S.pushVa T1)
      · obtain ⟨S', g⟩ := S.newT hp (ra.app rb)
        exact q _ _ _ g S'
    · cases hz
theorem op_addD {X : Cx} : OpR X (binaryOp .Add) (rAddD X.K) := (op_add.or op_cat).or op_catA
theorem ok_sub : OpOk K (rI0 fun i j => .int (i - j)) (binD .sub) := ok_ints fun x y z h => by
  unfold binD at h
  split at h <;> first | cases h | skip
  all_goals first | contradiction | skip
  exact ⟨_, _, _, rfl, rfl, rfl, fun H Q q => ⟨_, _, rfl, rfl, q _ fun G => .int _⟩⟩
def rMulD : R2 := fun x y H Q => rI CMulW (fun i j => .int (i * j)) x y H Q ∨ rRep x y H Q
theorem op_mulD {X : Cx} : OpR X (binaryOp .Mult) rMulD := op_mulW.or op_rep
theorem ok_mul : OpOk K rMulD (binD .mul) := by
  intro R G0 G H env σ tmp o1 o2 v1 v2 d1 d2 z Q S t1 t2 e1 e2 hz q
  have hl := line_eq
  unfold binD at hz
  split at hz <;> first | contradiction | skip
  · split at hz
    · rename_i hm
      cases hz
      have z1 := (S.res t1 e1).intI
      have z2 := (S.res t2 e2).intI
      subst z1
      subst z2
      unfold mulOk at hm
      simp only [decide_eq_true_eq] at hm
      exact .inl ⟨_, _, rfl, rfl, hm, q _ G H (Same.refl _) (S.pushVa (.int _))⟩
    · cases hz
  · rename_i xs k _
    split at hz
    · rename_i hle
      cases hz
      obtain ⟨a, us, rfl, ha, ra⟩ := S.resL t1 e1
      have z2 := (S.res t2 e2).intI
      subst z2
      refine .inr ⟨a, k, us, rfl, rfl, ha, by omega, by omega, by rw [ra.len, hl]; exact hle.2.2, fun p hp => ?_⟩
      exact q _ G _ (Same.refl _) (S.newL hp (ra.rep _))
    · cases hz
theorem ok_fdiv : OpOk K (rI CDivW fun i j => .int (i / j)) (binD .fdiv) := ok_ints fun x y z h => by
  unfold binD at h
  split at h <;> first | contradiction | skip
  split at h
  · rename_i hd
    cases h
    unfold divOk at hd
    simp only [Bool.and_eq_true, decide_eq_true_eq] at hd
    exact ⟨_, _, _, rfl, rfl, rfl, fun H Q q => ⟨_, _, rfl, rfl, hd, q _ fun G => .int _⟩⟩
  · cases h
theorem ok_md : OpOk K (rI (fun _ j => 0 < j) fun i j => .int (i % j)) (binD .md) := ok_ints fun x y z h => by
  unfold binD at h
  split at h <;> first | contradiction | skip
  split at h
  · rename_i hd
    cases h
    exact ⟨_, _, _, rfl, rfl, rfl, fun H Q q => ⟨_, _, rfl, rfl, hd, q _ fun G => .int _⟩⟩
  · cases h
theorem ok_pow : OpOk K (rI CPow fun i j => .int (i ^ j.toNat)) (binD .pow) := ok_ints fun x y z h => by
  unfold binD at h
  split at h <;> first | contradiction | skip
  split at h
  · rename_i hd
    cases h
    exact ⟨_, _, _, rfl, rfl, rfl, fun H Q q => ⟨_, _, rfl, rfl, hd, q _ fun G => .int _⟩⟩
  · cases h

/-! ### comparisons -/
def mapB (f : PyData → PyData → Option Bool) : PyData → PyData → Option Rv := fun x y => (f x y).map fun b => .va (.bool b)
theorem ok_cmpI {g : Int → Int → Bool} {c : Cop} (hc : ∀ x y b, cmpD c x y = some b → ∃ i j, x = .int i ∧ y = .int j ∧ b = g i j) : OpOk K (rI0 fun i j => .bl (g i j)) (mapB (cmpD c)) := ok_ints fun x y z h => by
  unfold mapB at h
  rw [Option.map_eq_some_iff] at h
  obtain ⟨b, h1, h2⟩ := h
  subst h2
  obtain ⟨i, j, rfl, rfl, rfl⟩ := hc _ _ _ h1
  exact ⟨i, j, _, rfl, rfl, rfl, fun H Q q => ⟨i, j, rfl, rfl, q _ fun G => .bl _⟩⟩
theorem ok_lt : OpOk K (rI0 fun i j => .bl (decide (i < j))) (mapB (cmpD .lt)) := ok_cmpI fun x y b h => by
  unfold cmpD at h
  split at h <;> first | contradiction | (cases h; exact ⟨_, _, rfl, rfl, rfl⟩)
theorem ok_le : OpOk K (rI0 fun i j => .bl (decide (i ≤ j))) (mapB (cmpD .le)) := ok_cmpI fun x y b h => by
  unfold cmpD at h
  split at h <;> first | contradiction | (cases h; exact ⟨_, _, rfl, rfl, rfl⟩)
theorem ok_gt : OpOk K (rI0 fun i j => .bl (decide (j < i))) (mapB (cmpD .gt)) := ok_cmpI (g := fun i j => decide (j < i)) fun x y b h => by
  unfold cmpD at h
  split at h <;> first | contradiction | (cases h; exact ⟨_, _, rfl, rfl, rfl⟩)
theorem ok_ge : OpOk K (rI0 fun i j => .bl (decide (j ≤ i))) (mapB (cmpD .ge)) := ok_cmpI (g := fun i j => decide (j ≤ i)) fun x y b h => by
  unfold cmpD at h
  split at h <;> first | contradiction | (cases h; exact ⟨_, _, rfl, rfl, rfl⟩)
theorem lay_of_shaped (h : SeqAt.shaped d = true) : d.canLay0 = true := SeqAt.canLay_of_shaped h
theorem ok_eq : OpOk K (fun x y H Q => rEq x y H Q ∨ rEqD K x y H Q) (mapB (cmpD .eq)) := by
  intro R G0 G H env σ tmp o1 o2 v1 v2 d1 d2 z Q S t1 t2 e1 e2 hz q
  unfold mapB at hz
  rw [Option.map_eq_some_iff] at hz
  obtain ⟨b, h1, h2⟩ := hz
  subst h2
  have p1 := S.res t1 e1
  have p2 := S.res t2 e2
  have gen : (if (SeqAt.shaped d1 && SeqAt.shaped d2) = true then some (PyData.eqv d1 d2) else none) = some b → rEq v1 v2 H Q ∨ rEqD K v1 v2 H Q := fun h1 => by
    split at h1
    · rename_i hs
      cases h1
      simp only [Bool.and_eq_true] at hs
      exact .inr ⟨d1, d2, p1.dp _ (lay_of_shaped hs.1), p2.dp _ (lay_of_shaped hs.2), hs.1, hs.2, q _ G H (Same.refl _) (S.pushVa (.bl _))⟩
    · cases h1
  unfold cmpD at h1
  split at h1 <;> first | contradiction | exact gen h1 | skip
  · cases h1
    have z1 := p1.strI
    have z2 := p2.strI
    subst z1
    subst z2
    refine .inl ⟨rfl, ?_⟩
    rename_i i j _
    rw [show decide (V.str i = V.str j) = decide (i = j) by simp]
    exact q _ G H (Same.refl _) (S.pushVa (.bl _))
theorem ok_ne : OpOk K (fun x y H Q => rNe x y H Q ∨ rNeD K x y H Q) (mapB (cmpD .ne)) := by
  intro R G0 G H env σ tmp o1 o2 v1 v2 d1 d2 z Q S t1 t2 e1 e2 hz q
  unfold mapB at hz
  rw [Option.map_eq_some_iff] at hz
  obtain ⟨b, h1, h2⟩ := hz
  subst h2
  have p1 := S.res t1 e1
  have p2 := S.res t2 e2
  have gen : (if (SeqAt.shaped d1 && SeqAt.shaped d2) = true then some (!PyData.eqv d1 d2) else none) = some b → rNe v1 v2 H Q ∨ rNeD K v1 v2 H Q := fun h1 => by
    split at h1
    · rename_i hs
      cases h1
      simp only [Bool.and_eq_true] at hs
      exact .inr ⟨d1, d2, p1.dp _ (lay_of_shaped hs.1), p2.dp _ (lay_of_shaped hs.2), hs.1, hs.2, q _ G H (Same.refl _) (S.pushVa (.bl _))⟩
    · cases h1
  unfold cmpD at h1
  split at h1 <;> first | contradiction | exact gen h1 | skip
  · cases h1
    have z1 := p1.strI
    have z2 := p2.strI
    subst z1
    subst z2
    refine .inl ⟨rfl, ?_⟩
    rename_i i j _
    rw [show decide (V.str i = V.str j) = decide (i = j) by simp]
    exact q _ G H (Same.refl _) (S.pushVa (.bl _))
def rCmp (K : PySem.W.Frag) : Cop → R2
  | .lt => rI0 fun i j => .bl (decide (i < j))
  | .le => rI0 fun i j => .bl (decide (i ≤ j))
  | .gt => rI0 fun i j => .bl (decide (j < i))
  | .ge => rI0 fun i j => .bl (decide (j ≤ i))
  | .eq => fun x y H Q => rEq x y H Q ∨ rEqD K x y H Q
  | .ne => fun x y H Q => rNe x y H Q ∨ rNeD K x y H Q
theorem ok_cmp (c : Cop) : OpOk K (rCmp K c) (mapB (cmpD c)) := by
  cases c
  · exact ok_lt
  · exact ok_le
  · exact ok_gt
  · exact ok_ge
  · exact ok_eq
  · exact ok_ne
def Cop.py : Cop → CmpOp
  | .lt => .Lt | .le => .LtE | .gt => .Gt | .ge => .GtE | .eq => .Eq | .ne => .NotEq
theorem op_cmpD {X : Cx} (hu : X.A.units + 64 < cLine) (c : Cop) : OpR X (compareOp c.py) (rCmp X.K c) := by
  cases c
  · exact op_lt
  · exact op_le
  · exact op_gt
  · exact op_ge
  · exact L2.op_eq.or (op_eqD hu)
  · exact L2.op_ne.or (op_neD hu)
theorem copOf_py {op : CmpOp} {c : Cop} (h : copOf op = some c) : op = c.py := by
  cases op <;> first | contradiction | (cases h; rfl)

/-- a op b op' c -/
theorem ok_chain {r r' : R2} {f g : PyData → PyData → Option Bool} {ta tb tc : TE} {fa fb fc : EnvD → Option (Opd × EnvD)} (hr : OpOk K r (mapB f)) (hr' : OpOk K r' (mapB g)) (ha : TEok K ta fa) (hb : TEok K tb fb) (hc : TEok K tc fc) :
    TEok K (tChain r r' ta tb tc) (fun env => (fa env).bind fun p => (fb p.2).bind fun q => (res q.2 p.1).bind fun x => (res q.2 q.1).bind fun y => (f x y).bind fun r => match r with
    | true => (fc q.2).bind fun w => (res w.2 q.1).bind fun y => (res w.2 w.1).bind fun z => (g y z).bind fun r => some (.va (.bool r), w.2)
    | false => some (.va (.bool false), q.2)) := by
  intro R G0 G H env σ tmp o env' Q S e q
  simp only [Option.bind_eq_some_iff] at e
  obtain ⟨⟨o1, e1⟩, h1, ⟨o2, e2⟩, h2, d1, r1, d2, r2, z, hz, e⟩ := e
  refine ha _ _ _ _ _ _ _ _ _ _ S h1 fun v1 G1 H1 g1 S1 => ?_
  refine hb _ _ _ _ _ _ _ _ _ _ S1 h2 fun v2 G2 H2 g2 S2 => ?_
  refine hr _ _ _ _ _ _ _ _ _ _ _ _ _ (.va (.bool z)) _ S2 S2.under S2.top r1 r2 (by unfold mapB; rw [hz]; rfl) fun v G3 H3 g3 S3 => ?_
  have ev : v = .bl z := Rp.boolI (K := K) (G := G3) S3.top
  subst ev
  refine ⟨z, rfl, ?_⟩
  cases z with
  | false =>
    dsimp only at e
    cases e
    rw [if_neg Bool.false_ne_true]
    exact q _ G3 H3 (g1.trans (g2.trans g3)) S3.drop2
  | true =>
    dsimp only at e
    simp only [Option.bind_eq_some_iff] at e
    obtain ⟨⟨o3, e3⟩, h3, d3, r3, d4, r4, w, hw, e⟩ := e
    cases e
    rw [if_pos rfl]
    refine hc _ _ _ _ _ _ _ _ _ _ S3.pop h3 fun v4 G4 H4 g4 S4 => ?_
    refine hr' _ _ _ _ _ _ _ _ _ _ _ _ _ (.va (.bool w)) _ S4 S4.under S4.top r3 r4 (by unfold mapB; rw [hw]; rfl) fun v G5 H5 g5 S5 => ?_
    exact q v G5 H5 (g1.trans (g2.trans (g3.trans (g4.trans g5)))) (S5.drop2.drop1)

/-- is None, True, False -/
def rIsD (c : PyData) (ng : Bool) : V → Hp → VK → Prop := fun x H Q => ∃ b, (match c with
  | .none => ∃ k, k = decide (x = .non) ∧ b = (if ng then !k else k)
  | .bool k => ∃ j, x = .bl j ∧ b = (if ng then !decide (j = k) else decide (j = k))
  | _ => False) ∧ Q (.bl b) H
theorem ok_isc {c : PyData} {ng : Bool} {r : R2} {ta tc : TE} {cv : V} {fa : EnvD → Option (Opd × EnvD)} (ha : TEok K ta fa) (htc : tc = tC cv)
    (hr : ∀ d b (v : V) (G H : Hp) (Q : VK), isD ng c d = some b → Rp K G v d → Q (.bl b) H → r v cv H Q) :
    TEok K (tOp r ta tc) (fun env => (fa env).bind fun p => match p.1 with
    | .va d => (isD ng c d).bind fun r => some (.va (.bool r), p.2)
    | _ => none) := by
  intro R G0 G H env σ tmp o env' Q S e q
  subst htc
  simp only [Option.bind_eq_some_iff] at e
  obtain ⟨⟨o1, e1⟩, h1, e⟩ := e
  cases o1 with
  | va d =>
    dsimp only at e
    simp only [Option.bind_eq_some_iff] at e
    obtain ⟨b, hb, e⟩ := e
    cases e
    refine ha _ _ _ _ _ _ _ _ _ _ S h1 fun v1 G1 H1 g1 S1 => ?_
    exact hr d b v1 G1 H1 Q hb S1.top (q _ G1 H1 g1 (S1.pop.pushVa (.bl b)))
  | ow ds => cases e
  | sl i => cases e

/-! ### in -/
theorem allInts_eq : ∀ {ds : List PyData} {ns : List Int}, allInts ds = some ns → ds = ns.map PyData.int
  | [], ns, h => by cases h; rfl
  | .int i :: r, ns, h => by
    unfold allInts at h
    rw [Option.map_eq_some_iff] at h
    obtain ⟨ms, h1, h2⟩ := h
    subst h2
    rw [allInts_eq h1]
    rfl
  | .none :: r, ns, h => by cases h
  | .bool _ :: r, ns, h => by cases h
  | .str _ :: r, ns, h => by cases h
  | .list _ :: r, ns, h => by cases h
  | .tuple _ :: r, ns, h => by cases h
  | .dict _ :: r, ns, h => by cases h
theorem allInts_map (ns : List Int) : allInts (ns.map PyData.int) = some ns := by
  induction ns with
  | nil => rfl
  | cons n ns ih =>
    show (allInts (ns.map PyData.int)).map (n :: ·) = _
    rw [ih]
    rfl
theorem allBools_eq : ∀ {ds : List PyData} {ns : List Bool}, allBools ds = some ns → ds = ns.map PyData.bool
  | [], ns, h => by cases h; rfl
  | .bool i :: r, ns, h => by
    unfold allBools at h
    rw [Option.map_eq_some_iff] at h
    obtain ⟨ms, h1, h2⟩ := h
    subst h2
    rw [allBools_eq h1]
    rfl
  | .none :: r, ns, h => by cases h
  | .int _ :: r, ns, h => by cases h
  | .str _ :: r, ns, h => by cases h
  | .list _ :: r, ns, h => by cases h
  | .tuple _ :: r, ns, h => by cases h
  | .dict _ :: r, ns, h => by cases h
theorem allBools_map (ns : List Bool) : allBools (ns.map PyData.bool) = some ns := by
  induction ns with
  | nil => rfl
  | cons n ns ih =>
    show (allBools (ns.map PyData.bool)).map (n :: ·) = _
    rw [ih]
    rfl
theorem inV_ints (i : Int) (ns : List Int) : inV (.int i) (ns.map V.int) = ns.contains i := by
  unfold inV
  induction ns with
  | nil => rfl
  | cons n ns ih =>
    rw [List.map_cons, List.any_cons, ih, List.contains_cons]
    show ((n == i) || _) = _
    rw [Bool.beq_comm]
theorem flat_ints (ns : List Int) : (ns.map V.int).all flatV = true := by
  rw [List.all_map]
  exact List.all_eq_true.mpr fun _ _ => rfl
theorem ok_inn {ng : Bool} : OpOk K (rIn K ng) (mapB (innD ng)) := by
  intro R G0 G H env σ tmp o1 o2 v1 v2 d1 d2 z Q S t1 t2 e1 e2 hz q
  unfold mapB at hz
  rw [Option.map_eq_some_iff] at hz
  obtain ⟨b, h1, h2⟩ := hz
  subst h2
  unfold innD at h1
  split at h1
  · rename_i i ds hi
    rw [Option.map_eq_some_iff] at h1
    obtain ⟨ns, hn, hb⟩ := h1
    have en := allInts_eq hn
    subst en
    have z1 := (S.res t1 e1).intI
    subst z1
    have fin : ∀ (a : Addr), (SqL K H a (ns.map V.int) ∨ SqT K H a (ns.map V.int)) → rIn K ng (.int i) (.ref a) H Q := fun a ha => by
      refine ⟨a, _, rfl, ha, rfl, flat_ints ns, ?_⟩
      rw [inV_ints]
      subst hb
      exact q _ G H (Same.refl _) (S.pushVa (.bl _))
    cases d2 with
    | list es =>
      cases hi
      obtain ⟨a, xs, rfl, ha, ra⟩ := S.resL t2 e2
      rw [ra.ints] at ha
      exact fin a (.inl (SqL.of ha))
    | tuple es =>
      cases hi
      obtain ⟨a, xs, rfl, ha, ra⟩ := (S.res t2 e2).tupI
      rw [ra.ints] at ha
      exact fin a (.inr (SqT.of ha))
    | _ => cases hi
  · cases h1

/-! ### subscripts -/
theorem atI_rp {xs : List V} {ds : List PyData} {i : Int} (r : RpAll K G xs ds) (h : atI ds i = some d) : ∃ v, atI xs i = some v ∧ Rp K G v d := by
  unfold atI at h ⊢
  rw [r.len]
  cases e : ixN ds.length i with
  | none =>
    rw [e] at h
    cases h
  | some j =>
    rw [e] at h
    obtain ⟨v, h1, h2⟩ := r.get (i := j) h
    exact ⟨v, h1, h2⟩
theorem atI_map {α β : Type} (f : α → β) (xs : List α) (i : Int) : atI (xs.map f) i = (atI xs i).map f := by
  unfold atI
  rw [List.length_map]
  cases ixN xs.length i with
  | none => rfl
  | some j => simp
theorem scrOf_eq {ns : List Int} (h : scrOf d = some ns) : d = scrD ns := by
  unfold scrOf at h
  split at h
  · rw [allInts_eq h]
    rfl
  · cases h
theorem scrOf_scr (ns : List Int) : scrOf (scrD ns) = some ns := allInts_map ns
theorem Rp.scrI {ns : List Int} (h : Rp K G v (scrD ns)) : ∃ a, v = .ref a ∧ SqL K G a (ns.map V.int) := by
  generalize e : scrD ns = d at h
  cases h with
  | scr hs =>
    rename_i a ms
    have e2 : ms = ns := by
      have := congrArg scrOf e
      rw [scrOf_scr, scrOf_scr] at this
      exact (Option.some.inj this).symm
    subst e2
    exact ⟨a, rfl, hs⟩
  | _ => cases e
def rIdxD (K : PySem.W.Frag) : R2 := fun x y H Q => rIxL K x y H Q ∨ rIxT K x y H Q
theorem ix_idxD {X : Cx} : IxR X (rIdxD X.K) := ix_list.or ix_tup
theorem ok_idx : OpOk K (rIdxD K) (fun x y => (idxD x y).map .va) := by
  intro R G0 G H env σ tmp o1 o2 v1 v2 d1 d2 z Q S t1 t2 e1 e2 hz q
  rw [Option.map_eq_some_iff] at hz
  obtain ⟨d, h1, h2⟩ := hz
  subst h2
  unfold idxD at h1
  split at h1
  · obtain ⟨a, xs, rfl, ha, ra⟩ := S.resL t1 e1
    have z2 := (S.res t2 e2).intI
    subst z2
    obtain ⟨v, hv, rv⟩ := atI_rp ra h1
    exact .inl ⟨a, xs, _, v, rfl, rfl, SqL.of ha, hv, q v G H (Same.refl _) (S.pushVa rv)⟩
  · have T1 := S.resT t1 e1 (fun ds => by intro z; cases z)
    obtain ⟨a, xs, rfl, ha, ra⟩ := T1.tupI
    have z2 := (S.res t2 e2).intI
    subst z2
    obtain ⟨v, hv, rv⟩ := atI_rp ra h1
    exact .inr ⟨a, xs, _, v, rfl, rfl, SqT.of (S.gh _ _ ha), hv, q v G H (Same.refl _) (S.pushVa rv)⟩
  · rw [Option.bind_eq_some_iff] at h1
    obtain ⟨ns, hn, h1⟩ := h1
    have ed := scrOf_eq hn
    subst ed
    obtain ⟨a, rfl, ha⟩ := (S.res t1 e1).scrI
    have z2 := (S.res t2 e2).intI
    subst z2
    rw [Option.map_eq_some_iff] at h1
    obtain ⟨k, hk, h1⟩ := h1
    subst h1
    exact .inl ⟨a, _, _, .int k, rfl, rfl, ha, by rw [atI_map, hk]; rfl, q _ G H (Same.refl _) (S.pushVa (.int k))⟩
  · cases h1

theorem cut_rp {xs : List V} {ds : List PyData} {lo hi : Option Int} (r : RpAll K G xs ds) : RpAll K G (cutV xs lo hi) (cutD ds lo hi) := by
  unfold cutV cutD
  rw [r.len]
  exact (r.drop _).take _
theorem cut_ints {ns : List Int} {lo hi : Option Int} : cutV (ns.map V.int) lo hi = (cutD ns lo hi).map V.int := by
  unfold cutV cutD
  rw [List.length_map, List.map_take, List.map_drop]
def rSlcD (K : PySem.W.Frag) : V → Option Int → Option Int → Hp → VK → Prop := fun x lo hi H Q => rSlL K x lo hi H Q ∨ rSlA K x lo hi H Q
theorem sl_slcD {X : Cx} : SlR X (rSlcD X.K) := SlR.or sl_list sl_tupA
theorem HT_whole {n : Nat} {lo hi : Option Int} {xs : List PyData} (h : n = xs.length) (w : HT.sIx n 0 lo = 0 ∧ HT.sIx n n hi = n) : cutD xs lo hi = xs := by
  subst h
  unfold cutD
  rw [w.1, w.2]
  simp
theorem ok_slc {ta : TE} {tl th : TO} {fa : EnvD → Option (Opd × EnvD)} {fl fh : EnvD → Option (Option Int × EnvD)} (ha : TEok K ta fa) (hl : TOok K tl fl) (hh : TOok K th fh) :
    TEok K (tSl (rSlcD K) ta tl th) (fun env => (fa env).bind fun p => (fl p.2).bind fun q => (fh q.2).bind fun w => (res w.2 p.1).bind fun x => (slcD x q.1 w.1).bind fun r => some (r.opd, w.2)) := by
  intro R G0 G H env σ tmp o env' Q S e q
  simp only [Option.bind_eq_some_iff] at e
  obtain ⟨⟨o1, e1⟩, h1, ⟨l, e2⟩, h2, ⟨u, e3⟩, h3, d1, r1, z, hz, e⟩ := e
  cases e
  refine ha _ _ _ _ _ _ _ _ _ _ S h1 fun v1 G1 H1 g1 S1 => ?_
  refine hl _ _ _ _ _ _ _ _ _ _ S1 h2 fun G2 H2 g2 S2 => ?_
  refine hh _ _ _ _ _ _ _ _ _ _ S2 h3 fun G3 H3 g3 S3 => ?_
  have g := g1.trans (g2.trans g3)
  unfold slcD at hz
  split at hz
  · cases hz
    obtain ⟨a, xs, rfl, hx, rx⟩ := S3.resL S3.top r1
    exact .inl ⟨a, xs, rfl, SqL.of hx, fun p hp => q _ G3 _ g (S3.newL hp (cut_rp rx)).drop1⟩
  · cases hz
    have T1 := S3.resT S3.top r1 (fun ds => by intro z; cases z)
    obtain ⟨a, xs, rfl, hx, rx⟩ := T1.tupI
    refine .inr ⟨a, xs, rfl, SqT.of (S3.gh _ _ hx), fun w => ?_, fun _ p hp => ?_⟩
    · have z := HT_whole rx.len w
      have q' := q (.ref a) G3 H3 g
      show Q (.ref a) H3
      refine q' ?_
      show SR _ _ _ _ _ _ _ ((Opd.va (.tuple (cutD _ l u)), _) :: _)
      rw [z]
      exact S3.pop.pushVa T1
    · obtain ⟨S', g'⟩ := S3.newT hp (cut_rp (lo := l) (hi := u) rx)
      exact q _ _ _ (g.trans g') S'.drop1
  · rw [Option.bind_eq_some_iff] at hz
    obtain ⟨ns, hn, hz⟩ := hz
    cases hz
    have ed := scrOf_eq hn
    subst ed
    obtain ⟨a, rfl, hx⟩ := (S3.res S3.top r1).scrI
    exact .inl ⟨a, _, rfl, hx, fun p hp => q _ G3 _ g (S3.newL hp (by rw [cut_ints]; exact RpAll.ofInts _)).drop1⟩
theorem ok_no : TOok K tNoPart (fun env => some (none, env)) := by
  intro R G0 G H env σ tmp o env' Q S e q
  cases e
  exact q G H (Same.refl _) S
theorem ok_part {ta : TE} {fa : EnvD → Option (Opd × EnvD)} (ha : TEok K ta fa) : TOok K (tPart ta) (fun env => (fa env).bind fun p => match p.1 with
    | .va (.int i) => some (some i, p.2)
    | _ => none) := by
  intro R G0 G H env σ tmp o env' Q S e q
  simp only [Option.bind_eq_some_iff] at e
  obtain ⟨⟨o1, e1⟩, h1, e⟩ := e
  dsimp only at e
  split at e
  · cases e
    refine ha _ _ _ _ _ _ _ _ _ _ S h1 fun v1 G1 H1 g1 S1 => ?_
    have z := Rp.intI (K := K) (G := G1) S1.top
    exact ⟨_, z, q G1 H1 g1 S1.pop⟩
  · cases e
theorem ok_rev {ta : TE} {fa : EnvD → Option (Opd × EnvD)} (ha : TEok K ta fa) : TEok K (tRevL K ta) (fun env => (fa env).bind fun p => (res p.2 p.1).bind fun x => match x with
    | .list ds => some (.ow ds.reverse, p.2)
    | _ => none) := by
  intro R G0 G H env σ tmp o env' Q S e q
  simp only [Option.bind_eq_some_iff] at e
  obtain ⟨⟨o1, e1⟩, h1, d1, r1, e⟩ := e
  dsimp only at e
  split at e
  · cases e
    refine ha _ _ _ _ _ _ _ _ _ _ S h1 fun v1 G1 H1 g1 S1 => ?_
    obtain ⟨a, xs, rfl, hx, rx⟩ := S1.resL S1.top r1
    exact ⟨a, xs, rfl, SqL.of hx, fun p hp => q _ G1 _ g1 (S1.newL hp rx.rev).drop1⟩
  · cases e
theorem ok_neg {ta : TE} {fa : EnvD → Option (Opd × EnvD)} (ha : TEok K ta fa) : TEok K (tUn (rU fun i => .int (-i)) ta) (fun env => (fa env).bind fun p => match p.1 with
    | .va (.int i) => some (.va (.int (-i)), p.2)
    | _ => none) := by
  intro R G0 G H env σ tmp o env' Q S e q
  simp only [Option.bind_eq_some_iff] at e
  obtain ⟨⟨o1, e1⟩, h1, e⟩ := e
  dsimp only at e
  split at e
  · cases e
    refine ha _ _ _ _ _ _ _ _ _ _ S h1 fun v1 G1 H1 g1 S1 => ?_
    have z := Rp.intI (K := K) (G := G1) S1.top
    exact ⟨_, z, q _ G1 H1 g1 (S1.pop.pushVa (.int _))⟩
  · cases e

/-! ### truth -/
theorem truth_eq {b : Bool} (h : truth o = some b) : o = .va (.bool b) := by
  unfold truth at h
  split at h
  · cases h
    rfl
  · cases h
def fT (fa : EnvD → Option (Opd × EnvD)) : EnvD → Option (Bool × EnvD) := fun env => (fa env).bind fun p => (truth p.1).bind fun t => some (t, p.2)
theorem ok_test {ta : TE} {fa : EnvD → Option (Opd × EnvD)} (ha : TEok K ta fa) : TTok K (tB ta) (fT fa) := by
  intro R G0 G H env σ tmp b env' Q S e q
  unfold fT at e
  simp only [Option.bind_eq_some_iff] at e
  obtain ⟨⟨o1, e1⟩, h1, t, ht, e⟩ := e
  cases e
  have ho := truth_eq ht
  dsimp only at ho
  subst ho
  refine ha _ _ _ _ _ _ _ _ _ _ S h1 fun v1 G1 H1 g1 S1 => ?_
  exact ⟨_, Rp.boolI (K := K) (G := G1) S1.top, q G1 H1 g1 S1.pop⟩
theorem ok_andV {ta tb : TE} {fa fb : EnvD → Option (Opd × EnvD)} (ha : TEok K ta fa) (hb : TEok K tb fb) : TEok K (tAndV ta tb) (fun env => (fa env).bind fun p => (truth p.1).bind fun t => match t with
    | true => fb p.2
    | false => some (.va (.bool false), p.2)) := by
  intro R G0 G H env σ tmp o env' Q S e q
  simp only [Option.bind_eq_some_iff] at e
  obtain ⟨⟨o1, e1⟩, h1, t, ht, e⟩ := e
  have ho := truth_eq ht
  dsimp only at ho
  subst ho
  refine ha _ _ _ _ _ _ _ _ _ _ S h1 fun v1 G1 H1 g1 S1 => ?_
  refine ⟨_, Rp.boolI (K := K) (G := G1) S1.top, ?_⟩
  cases t with
  | true =>
    rw [if_pos rfl]
    exact hb _ _ _ _ _ _ _ _ _ _ S1.pop e fun v G2 H2 g2 S2 => q v G2 H2 (g1.trans g2) S2
  | false =>
    cases e
    rw [if_neg Bool.false_ne_true]
    exact q _ G1 H1 g1 (S1.pop.pushVa (.bl _))
theorem ok_orV {ta tb : TE} {fa fb : EnvD → Option (Opd × EnvD)} (ha : TEok K ta fa) (hb : TEok K tb fb) : TEok K (tOrV ta tb) (fun env => (fa env).bind fun p => (truth p.1).bind fun t => match t with
    | true => some (.va (.bool true), p.2)
    | false => fb p.2) := by
  intro R G0 G H env σ tmp o env' Q S e q
  simp only [Option.bind_eq_some_iff] at e
  obtain ⟨⟨o1, e1⟩, h1, t, ht, e⟩ := e
  have ho := truth_eq ht
  dsimp only at ho
  subst ho
  refine ha _ _ _ _ _ _ _ _ _ _ S h1 fun v1 G1 H1 g1 S1 => ?_
  refine ⟨_, Rp.boolI (K := K) (G := G1) S1.top, ?_⟩
  cases t with
  | false =>
    rw [if_neg Bool.false_ne_true]
    exact hb _ _ _ _ _ _ _ _ _ _ S1.pop e fun v G2 H2 g2 S2 => q v G2 H2 (g1.trans g2) S2
  | true =>
    cases e
    rw [if_pos rfl]
    exact q _ G1 H1 g1 (S1.pop.pushVa (.bl _))
theorem ok_notV {ta : TE} {fa : EnvD → Option (Opd × EnvD)} (ha : TEok K ta fa) : TEok K (tNotV ta) (fun env => (fa env).bind fun p => (truth p.1).bind fun t => some (.va (.bool (!t)), p.2)) := by
  intro R G0 G H env σ tmp o env' Q S e q
  simp only [Option.bind_eq_some_iff] at e
  obtain ⟨⟨o1, e1⟩, h1, t, ht, e⟩ := e
  have ho := truth_eq ht
  dsimp only at ho
  subst ho
  cases e
  refine ha _ _ _ _ _ _ _ _ _ _ S h1 fun v1 G1 H1 g1 S1 => ?_
  exact ⟨_, Rp.boolI (K := K) (G := G1) S1.top, q _ G1 H1 g1 (S1.pop.pushVa (.bl _))⟩
/-- as tests -/
theorem ok_andT {ta tb : TT} {fa fb : EnvD → Option (Opd × EnvD)} (ha : TTok K ta (fT fa)) (hb : TTok K tb (fT fb)) : TTok K (tAnd ta tb) (fT fun env => (fa env).bind fun p => (truth p.1).bind fun t => match t with
    | true => fb p.2
    | false => some (.va (.bool false), p.2)) := by
  intro R G0 G H env σ tmp b env' Q S e q
  unfold fT at e
  simp only [Option.bind_eq_some_iff] at e
  obtain ⟨⟨o2, e2⟩, ⟨⟨o1, e1⟩, h1, t, ht, e⟩, u, hu, e3⟩ := e
  cases e3
  refine ha _ _ _ _ _ _ _ t e1 _ S (by unfold fT; rw [h1]; simp [ht]) fun G1 H1 g1 S1 => ?_
  cases t with
  | true =>
    show tb σ H1 Q
    have e : fb e1 = some (o2, e2) := e
    exact hb _ _ _ _ _ _ _ _ e2 _ S1 (by unfold fT; rw [e]; simp [hu]) fun G2 H2 g2 S2 => q G2 H2 (g1.trans g2) S2
  | false =>
    cases e
    cases hu
    exact q G1 H1 g1 S1
theorem ok_orT {ta tb : TT} {fa fb : EnvD → Option (Opd × EnvD)} (ha : TTok K ta (fT fa)) (hb : TTok K tb (fT fb)) : TTok K (tOr ta tb) (fT fun env => (fa env).bind fun p => (truth p.1).bind fun t => match t with
    | true => some (.va (.bool true), p.2)
    | false => fb p.2) := by
  intro R G0 G H env σ tmp b env' Q S e q
  unfold fT at e
  simp only [Option.bind_eq_some_iff] at e
  obtain ⟨⟨o2, e2⟩, ⟨⟨o1, e1⟩, h1, t, ht, e⟩, u, hu, e3⟩ := e
  cases e3
  refine ha _ _ _ _ _ _ _ t e1 _ S (by unfold fT; rw [h1]; simp [ht]) fun G1 H1 g1 S1 => ?_
  cases t with
  | false =>
    show tb σ H1 Q
    have e : fb e1 = some (o2, e2) := e
    exact hb _ _ _ _ _ _ _ _ e2 _ S1 (by unfold fT; rw [e]; simp [hu]) fun G2 H2 g2 S2 => q G2 H2 (g1.trans g2) S2
  | true =>
    cases e
    cases hu
    exact q G1 H1 g1 S1
theorem ok_notT {ta : TT} {fa : EnvD → Option (Opd × EnvD)} (ha : TTok K ta (fT fa)) : TTok K (tNot ta) (fT fun env => (fa env).bind fun p => (truth p.1).bind fun t => some (.va (.bool (!t)), p.2)) := by
  intro R G0 G H env σ tmp b env' Q S e q
  unfold fT at e
  simp only [Option.bind_eq_some_iff] at e
  obtain ⟨⟨o2, e2⟩, ⟨⟨o1, e1⟩, h1, t, ht, e⟩, u, hu, e3⟩ := e
  cases e3
  cases e
  cases hu
  exact ha _ _ _ _ _ _ _ t e1 _ S (by unfold fT; rw [h1]; simp [ht]) fun G1 H1 g1 S1 => q G1 H1 g1 S1
/-- a comparison as a test, an if expression -/
theorem ok_tTest {ta : TE} {fa : EnvD → Option (Opd × EnvD)} (ha : TEok K ta fa) : TTok K (tTest ta) (fT fa) := ok_test ha
theorem ok_if {tc : TT} {ta tb : TE} {fc fa fb : EnvD → Option (Opd × EnvD)} (hc : TTok K tc (fT fc)) (ha : TEok K ta fa) (hb : TEok K tb fb) : TEok K (tIf tc ta tb) (fun env => (fc env).bind fun p => (truth p.1).bind fun t => match t with
    | true => fa p.2
    | false => fb p.2) := by
  intro R G0 G H env σ tmp o env' Q S e q
  simp only [Option.bind_eq_some_iff] at e
  obtain ⟨⟨o1, e1⟩, h1, t, ht, e⟩ := e
  refine hc _ _ _ _ _ _ _ t e1 _ S (by unfold fT; rw [h1]; simp [ht]) fun G1 H1 g1 S1 => ?_
  cases t with
  | true => exact ha _ _ _ _ _ _ _ _ _ _ S1 e fun v G2 H2 g2 S2 => q v G2 H2 (g1.trans g2) S2
  | false => exact hb _ _ _ _ _ _ _ _ _ _ S1 e fun v G2 H2 g2 S2 => q v G2 H2 (g1.trans g2) S2

/-! ### arguments, displays -/
theorem ok_nil : TAok K tNil (fun env => some ([], env)) := by
  intro R G0 G H env σ tmp os env' Q S e q
  cases e
  exact q [] G H rfl (Same.refl _) S
theorem ok_cons {ta : TE} {tr : TA} {fa : EnvD → Option (Opd × EnvD)} {fr : EnvD → Option (List Opd × EnvD)} (ha : TEok K ta fa) (hr : TAok K tr fr) : TAok K (tCons ta tr) (fun env => (fa env).bind fun p => (fr p.2).bind fun q => some (p.1 :: q.1, q.2)) := by
  intro R G0 G H env σ tmp os env' Q S e q
  simp only [Option.bind_eq_some_iff] at e
  obtain ⟨⟨o1, e1⟩, h1, ⟨os2, e2⟩, h2, e⟩ := e
  cases e
  refine ha _ _ _ _ _ _ _ _ _ _ S h1 fun v1 G1 H1 g1 S1 => ?_
  refine hr _ _ _ _ _ _ _ _ _ _ S1 h2 fun vs G2 H2 hl g2 S2 => ?_
  refine q (v1 :: vs) G2 H2 (by simp [hl]) (g1.trans g2) (S2.perm ?_)
  show (os2.zip vs ++ (o1, v1) :: tmp).Perm ((o1, v1) :: (os2.zip vs ++ tmp))
  exact List.perm_middle
/-- a value on its way stays from now on -/
theorem SR.frz (S : SR K R G0 G H env σ ((o, v) :: tmp)) (h : frz env o = some (d, env')) : ∃ G', Same G G' ∧ SR K R G0 G' H env' σ tmp ∧ Rp K G' v d := by
  cases o with
  | va d' =>
    cases h
    exact ⟨G, Same.refl _, S.pop, S.top⟩
  | ow ds =>
    cases h
    obtain ⟨G', g, S'⟩ := S.thaw
    exact ⟨G', g, S'.pop, S'.top⟩
  | sl i =>
    unfold Pd.frz at h
    dsimp only at h
    split at h
    · rename_i ds q
      cases h
      obtain ⟨G', g, S'⟩ := S.thawS q
      exact ⟨G', g, S'.pop, S'.top⟩
    · rename_i d' q
      cases h
      obtain ⟨u, e1, r⟩ := S.slot i _ q
      have e2 : σ[i]? = some (some v) := S.top
      rw [e1] at e2
      cases e2
      exact ⟨G, Same.refl _, S.pop, r⟩
    · cases h
theorem frzs_ok : ∀ (os : List Opd) (vs : List V) (G : Hp) (env : EnvD) (ds : List PyData), SR K R G0 G H env σ (os.zip vs ++ tmp) → os.length = vs.length → Pd.frzs env os = some (ds, env') → ∃ G', Same G G' ∧ SR K R G0 G' H env' σ tmp ∧ RpAll K G' vs ds := by
  intro os
  induction os with
  | nil =>
    intro vs G env ds S hl h
    cases h
    cases vs with
    | nil => exact ⟨G, Same.refl _, S, .nil⟩
    | cons _ _ => cases hl
  | cons o os ih =>
    intro vs G env ds S hl h
    cases vs with
    | nil => cases hl
    | cons v vs =>
      unfold Pd.frzs at h
      simp only [Option.bind_eq_some_iff] at h
      obtain ⟨⟨d, e1⟩, h1, ⟨ds', e2⟩, h2, e⟩ := h
      cases e
      obtain ⟨G1, g1, S1, r1⟩ := SR.frz (tmp := os.zip vs ++ tmp) S h1
      obtain ⟨G2, g2, S2, r2⟩ := ih _ _ _ _ S1 (by simpa using hl) h2
      exact ⟨G2, g1.trans g2, S2, .cons (r1.mono g2) r2⟩
theorem ok_lst {ta : TA} {fa : EnvD → Option (List Opd × EnvD)} (ha : TAok K ta fa) : TEok K (tLst ta) (fun env => (fa env).bind fun p => (Pd.frzs p.2 p.1).bind fun q => if q.1.length ≤ 16777216 then some (.ow q.1, q.2) else none) := by
  intro R G0 G H env σ tmp o env' Q S e q
  simp only [Option.bind_eq_some_iff] at e
  obtain ⟨⟨os, e1⟩, h1, ⟨ds, e2⟩, h2, e⟩ := e
  dsimp only at e
  split at e
  · rename_i hle
    cases e
    refine ha _ _ _ _ _ _ _ _ _ _ S h1 fun vs G1 H1 hl g1 S1 => ?_
    obtain ⟨G2, g2, S2, r2⟩ := frzs_ok _ _ _ _ _ S1 hl h2
    exact ⟨by rw [r2.len, line_eq]; exact hle, fun p hp => q _ G2 _ (g1.trans g2) (S2.newL hp r2)⟩
  · cases e
theorem ok_tup {ta : TA} {fa : EnvD → Option (List Opd × EnvD)} (ha : TAok K ta fa) : TEok K (tTup ta) (fun env => (fa env).bind fun p => (Pd.frzs p.2 p.1).bind fun q => if q.1.length ≤ 16777216 then some (.va (.tuple q.1), q.2) else none) := by
  intro R G0 G H env σ tmp o env' Q S e q
  simp only [Option.bind_eq_some_iff] at e
  obtain ⟨⟨os, e1⟩, h1, ⟨ds, e2⟩, h2, e⟩ := e
  dsimp only at e
  split at e
  · rename_i hle
    cases e
    refine ha _ _ _ _ _ _ _ _ _ _ S h1 fun vs G1 H1 hl g1 S1 => ?_
    obtain ⟨G2, g2, S2, r2⟩ := frzs_ok _ _ _ _ _ S1 hl h2
    refine ⟨by rw [r2.len, line_eq]; exact hle, fun p hp => ?_⟩
    obtain ⟨S3, g3⟩ := S2.newT hp r2
    exact q _ _ _ (g1.trans (g2.trans g3)) S3
  · cases e
theorem ok_call {ta : TA} {r : List V → Hp → VK → Prop} {f : List PyData → Option Rv} {fa : EnvD → Option (List Opd × EnvD)} (hr : CallOk K r f) (ha : TAok K ta fa) : TEok K (tCB r ta) (fun env => (fa env).bind fun p => (ress p.2 p.1).bind fun ds => (f ds).bind fun r => some (r.opd, p.2)) := by
  intro R G0 G H env σ tmp o env' Q S e q
  simp only [Option.bind_eq_some_iff] at e
  obtain ⟨⟨os, e1⟩, h1, ds, h2, z, hz, e⟩ := e
  cases e
  refine ha _ _ _ _ _ _ _ _ _ _ S h1 fun vs G1 H1 hl g1 S1 => ?_
  exact hr _ _ _ _ _ _ _ _ _ _ _ _ S1 hl h2 hz fun v G2 H2 g2 S2 => q v G2 H2 (g1.trans g2) S2
end
end Pd

/-! the built-in functions that are called with data -/
namespace Pd
open PySem PySem.Spec PyProof.Rows L2

section
variable {K : PySem.W.Frag} {R : RR} {G0 G H : Hp} {env env' : EnvD} {σ : L2.St} {tmp : Tmp} {o : Opd} {v : V} {d : PyData}

theorem zip_drop {os : List Opd} {vs : List V} (S : SR K R G0 G H env σ (os.zip vs ++ tmp)) : SR K R G0 G H env σ tmp := S.sub (List.sublist_append_right _ _)
theorem ress_rp : ∀ (os : List Opd) (vs : List V) (ds : List PyData), SR K R G0 G H env σ (os.zip vs ++ tmp) → os.length = vs.length → ress env os = some ds → RpAll K H vs ds := by
  intro os
  induction os with
  | nil =>
    intro vs ds S hl h
    cases vs with
    | nil =>
      cases h
      exact .nil
    | cons _ _ => cases hl
  | cons o os ih =>
    intro vs ds S hl h
    cases vs with
    | nil => cases hl
    | cons v vs =>
      unfold ress at h
      simp only [Option.bind_eq_some_iff] at h
      obtain ⟨d, h1, ds', h2, e⟩ := h
      cases e
      exact .cons (S.res S.top h1) (ih _ _ S.pop (by simpa using hl) h2)
/-- one argument -/
theorem one_of {os : List Opd} {vs : List V} {d : PyData} (S : SR K R G0 G H env σ (os.zip vs ++ tmp)) (hl : os.length = vs.length) (h : ress env os = some [d]) : ∃ o v, os = [o] ∧ vs = [v] ∧ OpdR K G H σ o v ∧ res env o = some d := by
  cases os with
  | nil => cases h
  | cons o os =>
    unfold ress at h
    simp only [Option.bind_eq_some_iff] at h
    obtain ⟨d', h1, ds', h2, e⟩ := h
    cases e
    cases os with
    | cons o2 os =>
      unfold ress at h2
      simp only [Option.bind_eq_some_iff] at h2
      obtain ⟨_, _, _, _, e⟩ := h2
      cases e
    | nil =>
      cases vs with
      | nil => cases hl
      | cons v vs =>
        cases vs with
        | cons _ _ => cases hl
        | nil => exact ⟨o, v, rfl, rfl, S.top, h1⟩
theorem two_of {os : List Opd} {vs : List V} {d e : PyData} (S : SR K R G0 G H env σ (os.zip vs ++ tmp)) (hl : os.length = vs.length) (h : ress env os = some [d, e]) : ∃ v w, vs = [v, w] ∧ Rp K H v d ∧ Rp K H w e := by
  have r := ress_rp _ _ _ S hl h
  cases r with
  | cons r1 r2 =>
    cases r2 with
    | cons r2 r3 =>
      cases r3
      exact ⟨_, _, rfl, r1, r2⟩

/-! ### one built-in each -/
def rLenD (K : PySem.W.Frag) : List V → Hp → VK → Prop := fun xs H Q => ∃ x n, xs = [x] ∧ LenV K x H n ∧ Q (.int n) H
theorem ok_len : CallOk K (rLenD K) (biD .len) := by
  intro R G0 G H env σ tmp os vs ds z Q S hl h hz q
  have hs := line_eq
  unfold biD at hz
  split at hz <;> try contradiction
  · cases hz
    obtain ⟨o, v, rfl, rfl, ho, e⟩ := one_of S hl h
    obtain ⟨a, xs, rfl, ha, ra⟩ := S.resL ho e
    exact ⟨_, _, rfl, .inl ⟨xs, SqL.of ha, rfl⟩, by rw [ra.len]; exact q _ G H (Same.refl _) ((zip_drop S).pushVa (.int _))⟩
  · cases hz
    obtain ⟨o, v, rfl, rfl, ho, e⟩ := one_of S hl h
    obtain ⟨a, xs, rfl, ha, ra⟩ := (S.res ho e).tupI
    exact ⟨_, _, rfl, .inr ⟨xs, SqT.of ha, rfl⟩, by rw [ra.len]; exact q _ G H (Same.refl _) ((zip_drop S).pushVa (.int _))⟩
  · split at hz
    · rename_i hle
      cases hz
      obtain ⟨o, v, rfl, rfl, ho, e⟩ := one_of S hl h
      have e1 := (S.res ho e).strI
      subst e1
      exact ⟨_, _, rfl, ⟨by rw [hs]; exact hle, rfl⟩, q _ G H (Same.refl _) ((zip_drop S).pushVa (.int _))⟩
    · cases hz
  · rw [Option.map_eq_some_iff] at hz
    obtain ⟨ns, hn, hz⟩ := hz
    subst hz
    have ed := scrOf_eq hn
    subst ed
    obtain ⟨o, v, rfl, rfl, ho, e⟩ := one_of S hl h
    obtain ⟨a, rfl, ha⟩ := (S.res ho e).scrI
    exact ⟨_, _, rfl, .inl ⟨_, ha, rfl⟩, by rw [List.length_map]; exact q _ G H (Same.refl _) ((zip_drop S).pushVa (.int _))⟩

/-- sum of a tuple -/
def rSumT (K : PySem.W.Frag) : List V → Hp → VK → Prop := fun vs H Q => ∃ (a : Addr) (ns : List Int), vs = [V.ref a] ∧ SqT K H a (ns.map V.int) ∧ Q (.int ns.sum) H
theorem cr_sumT {X : Cx} (hc : X.calm = true) : CallR X (.builtin "sum") (rSumT X.K) := by
  intro pins s σ H vs us Q I r h
  obtain ⟨a, ns, rfl, hs, q⟩ := h
  obtain ⟨its, rv, hl, _⟩ := I.tuple hs
  rw [Vals.ref1 r]
  have hi := rv.ints
  obtain ⟨xs, e⟩ := hi.allInts.items
  have hn : numsOf (intItems xs).toList = ns := by
    rw [← e]
    exact hi.numsOf
  rw [nums_intItems] at hn
  rw [e] at hl
  refine PySem.W.ktm_sumG (I.ok.hd hc) hl fun h' tk t' hk => ?_
  have fin : EP X pins σ Q (.int ns.sum t') { s with heap := h', toks := tk } := ⟨.int _, H, I.kept hk, ⟨_, rfl⟩, q⟩
  rw [preSum_eq, List.take_of_length_le (by simp), hn]
  exact fin
def rSumD (K : PySem.W.Frag) : List V → Hp → VK → Prop := fun vs H Q => rSum K vs H Q ∨ rSumT K vs H Q
theorem cr_sumD {X : Cx} (hc : X.calm = true) : CallR X (.builtin "sum") (rSumD X.K) := (cr_sum hc).or (cr_sumT hc)
theorem ok_sum : CallOk K (rSumD K) (biD .sum) := by
  intro R G0 G H env σ tmp os vs ds z Q S hl h hz q
  unfold biD at hz
  split at hz <;> try contradiction
  all_goals
    rw [Option.map_eq_some_iff] at hz
    obtain ⟨ns, hn, hz⟩ := hz
    subst hz
    have en := allInts_eq hn
    subst en
    obtain ⟨o, v, rfl, rfl, ho, e⟩ := one_of S hl h
  · obtain ⟨a, xs, rfl, ha, ra⟩ := S.resL ho e
    rw [ra.ints] at ha
    exact .inl ⟨a, ns, rfl, SqL.of ha, q _ G H (Same.refl _) ((zip_drop S).pushVa (.int _))⟩
  · obtain ⟨a, xs, rfl, ha, ra⟩ := (S.res ho e).tupI
    rw [ra.ints] at ha
    exact .inr ⟨a, ns, rfl, SqT.of ha, q _ G H (Same.refl _) ((zip_drop S).pushVa (.int _))⟩

theorem maxI_mem : ∀ (ns : List Int), ns ≠ [] → maxI ns ∈ ns
  | [], h => absurd rfl h
  | [x], _ => List.mem_cons_self
  | x :: y :: r, _ => by
    have ih := maxI_mem (y :: r) (by simp)
    show (if x < maxI (y :: r) then maxI (y :: r) else x) ∈ _
    split
    · exact List.mem_cons_of_mem _ ih
    · exact List.mem_cons_self
theorem maxI_le : ∀ (ns : List Int) (z : Int), z ∈ ns → z ≤ maxI ns
  | [], z, h => by cases h
  | [x], z, h => by
    rcases List.mem_cons.mp h with e | e
    · subst e
      exact Int.le_refl _
    · cases e
  | x :: y :: r, z, h => by
    have ih := maxI_le (y :: r)
    show z ≤ (if x < maxI (y :: r) then maxI (y :: r) else x)
    rcases List.mem_cons.mp h with e | e
    · subst e
      split <;> omega
    · have := ih z e
      split <;> omega
theorem minI_mem : ∀ (ns : List Int), ns ≠ [] → minI ns ∈ ns
  | [], h => absurd rfl h
  | [x], _ => List.mem_cons_self
  | x :: y :: r, _ => by
    have ih := minI_mem (y :: r) (by simp)
    show (if minI (y :: r) < x then minI (y :: r) else x) ∈ _
    split
    · exact List.mem_cons_of_mem _ ih
    · exact List.mem_cons_self
theorem minI_le : ∀ (ns : List Int) (z : Int), z ∈ ns → minI ns ≤ z
  | [], z, h => by cases h
  | [x], z, h => by
    rcases List.mem_cons.mp h with e | e
    · subst e
      exact Int.le_refl _
    · cases e
  | x :: y :: r, z, h => by
    have ih := minI_le (y :: r)
    show (if minI (y :: r) < x then minI (y :: r) else x) ≤ z
    rcases List.mem_cons.mp h with e | e
    · subst e
      split <;> omega
    · have := ih z e
      split <;> omega
def rMax2 : List V → Hp → VK → Prop := fun xs H Q => ∃ i j, xs = [.int i, .int j] ∧ Q (.int (if j > i then j else i)) H
def rMaxD (K : PySem.W.Frag) : List V → Hp → VK → Prop := fun vs H Q => rMax2 vs H Q ∨ rMax K vs H Q
theorem cr_maxD {X : Cx} (hc : X.calm = true) : CallR X (.builtin "max") (rMaxD X.K) := (call_max2 hc).or (cr_max hc)
theorem ok_max : CallOk K (rMaxD K) (biD .max) := by
  intro R G0 G H env σ tmp os vs ds z Q S hl h hz q
  unfold biD at hz
  split at hz <;> try contradiction
  · cases hz
    obtain ⟨v, w, rfl, r1, r2⟩ := two_of S hl h
    have e1 := r1.intI
    have e2 := r2.intI
    subst e1
    subst e2
    exact .inl ⟨_, _, rfl, q _ G H (Same.refl _) ((zip_drop S).pushVa (.int _))⟩
  · rw [Option.bind_eq_some_iff] at hz
    obtain ⟨ns, hn, hz⟩ := hz
    split at hz
    · cases hz
    · rename_i hne
      cases hz
      have en := allInts_eq hn
      subst en
      obtain ⟨o, v, rfl, rfl, ho, e⟩ := one_of S hl h
      obtain ⟨a, xs, rfl, ha, ra⟩ := S.resL ho e
      rw [ra.ints] at ha
      refine .inr ⟨a, ns, rfl, SqL.of ha, List.length_pos_iff.mpr hne, fun m hm hle => ?_⟩
      have em : m = maxI ns := Int.le_antisymm (maxI_le ns m hm) (hle _ (maxI_mem ns hne))
      subst em
      exact q _ G H (Same.refl _) ((zip_drop S).pushVa (.int _))
def rMin2 : List V → Hp → VK → Prop := fun xs H Q => ∃ i j, xs = [.int i, .int j] ∧ Q (.int (if j < i then j else i)) H
def rMinD (K : PySem.W.Frag) : List V → Hp → VK → Prop := fun vs H Q => rMin2 vs H Q ∨ rMin K vs H Q
theorem cr_minD {X : Cx} (hc : X.calm = true) : CallR X (.builtin "min") (rMinD X.K) := (call_min2 hc).or (cr_min hc)
theorem ok_min : CallOk K (rMinD K) (biD .min) := by
  intro R G0 G H env σ tmp os vs ds z Q S hl h hz q
  unfold biD at hz
  split at hz <;> try contradiction
  · cases hz
    obtain ⟨v, w, rfl, r1, r2⟩ := two_of S hl h
    have e1 := r1.intI
    have e2 := r2.intI
    subst e1
    subst e2
    exact .inl ⟨_, _, rfl, q _ G H (Same.refl _) ((zip_drop S).pushVa (.int _))⟩
  · rw [Option.bind_eq_some_iff] at hz
    obtain ⟨ns, hn, hz⟩ := hz
    split at hz
    · cases hz
    · rename_i hne
      cases hz
      have en := allInts_eq hn
      subst en
      obtain ⟨o, v, rfl, rfl, ho, e⟩ := one_of S hl h
      obtain ⟨a, xs, rfl, ha, ra⟩ := S.resL ho e
      rw [ra.ints] at ha
      refine .inr ⟨a, ns, rfl, SqL.of ha, List.length_pos_iff.mpr hne, fun m hm hle => ?_⟩
      have em : m = minI ns := Int.le_antisymm (hle _ (minI_mem ns hne)) (minI_le ns m hm)
      subst em
      exact q _ G H (Same.refl _) ((zip_drop S).pushVa (.int _))
def rAbs : List V → Hp → VK → Prop := fun xs H Q => ∃ i, xs = [.int i] ∧ Q (.int (if i < 0 then -i else i)) H
theorem ok_abs : CallOk K rAbs (biD .abs) := by
  intro R G0 G H env σ tmp os vs ds z Q S hl h hz q
  unfold biD at hz
  split at hz <;> try contradiction
  cases hz
  obtain ⟨o, v, rfl, rfl, ho, e⟩ := one_of S hl h
  have e1 := (S.res ho e).intI
  subst e1
  exact ⟨_, rfl, q _ G H (Same.refl _) ((zip_drop S).pushVa (.int _))⟩
def rInt : List V → Hp → VK → Prop := fun xs H Q => (∃ i, xs = [.int i] ∧ Q (.int i) H) ∨ ∃ k, xs = [.bl k] ∧ Q (.int (if k then 1 else 0)) H
theorem ok_int : CallOk K rInt (biD .int) := by
  intro R G0 G H env σ tmp os vs ds z Q S hl h hz q
  unfold biD at hz
  split at hz <;> try contradiction
  · cases hz
    obtain ⟨o, v, rfl, rfl, ho, e⟩ := one_of S hl h
    have e1 := (S.res ho e).intI
    subst e1
    exact .inl ⟨_, rfl, q _ G H (Same.refl _) ((zip_drop S).pushVa (.int _))⟩
  · cases hz
    obtain ⟨o, v, rfl, rfl, ho, e⟩ := one_of S hl h
    have e1 := (S.res ho e).boolI
    subst e1
    exact .inr ⟨_, rfl, q _ G H (Same.refl _) ((zip_drop S).pushVa (.int _))⟩
def rList (K : PySem.W.Frag) : List V → Hp → VK → Prop := fun xs H Q => ∃ p ys, xs = [.ref p] ∧ (SqL K H p ys ∨ SqT K H p ys) ∧ ∀ l, H l = none → Q (.ref l) (upd H l (.lst ys))
theorem ok_list : CallOk K (rList K) (biD .list) := by
  intro R G0 G H env σ tmp os vs ds z Q S hl h hz q
  unfold biD at hz
  split at hz <;> try contradiction
  · cases hz
    obtain ⟨o, v, rfl, rfl, ho, e⟩ := one_of S hl h
    obtain ⟨a, xs, rfl, ha, ra⟩ := S.resL ho e
    exact ⟨a, xs, rfl, .inl (SqL.of ha), fun l hl' => q _ G _ (Same.refl _) ((zip_drop S).newL hl' ra)⟩
  · cases hz
    obtain ⟨o, v, rfl, rfl, ho, e⟩ := one_of S hl h
    obtain ⟨a, xs, rfl, ha, ra⟩ := (S.resT ho e (fun ds => by intro z; cases z)).tupI
    exact ⟨a, xs, rfl, .inr (SqT.of (S.gh _ _ ha)), fun l hl' => q _ G _ (Same.refl _) ((zip_drop S).newL hl' ra)⟩
def rTuple (K : PySem.W.Frag) : List V → Hp → VK → Prop := fun xs H Q => ∃ p ys, xs = [.ref p] ∧ ((SqL K H p ys ∧ ∀ l, H l = none → Q (.ref l) (upd H l (.tup ys))) ∨ (SqT K H p ys ∧ Q (.ref p) H))
theorem ok_tuple : CallOk K (rTuple K) (biD .tuple) := by
  intro R G0 G H env σ tmp os vs ds z Q S hl h hz q
  unfold biD at hz
  split at hz <;> try contradiction
  · cases hz
    obtain ⟨o, v, rfl, rfl, ho, e⟩ := one_of S hl h
    obtain ⟨a, xs, rfl, ha, ra⟩ := S.resL ho e
    refine ⟨a, xs, rfl, .inl ⟨SqL.of ha, fun l hl' => ?_⟩⟩
    obtain ⟨S', g⟩ := (zip_drop S).newT hl' ra
    exact q _ _ _ g S'
  · cases hz
    obtain ⟨o, v, rfl, rfl, ho, e⟩ := one_of S hl h
    have T := S.resT ho e (fun ds => by intro z; cases z)
    obtain ⟨a, xs, rfl, ha, ra⟩ := T.tupI
    exact ⟨a, xs, rfl, .inr ⟨SqT.of (S.gh _ _ ha), q _ G H (Same.refl _) ((zip_drop S).pushVa T)⟩⟩
theorem ok_all : CallOk K (rAll K) (biD .all) := by
  intro R G0 G H env σ tmp os vs ds z Q S hl h hz q
  unfold biD at hz
  split at hz <;> try contradiction
  rw [Option.map_eq_some_iff] at hz
  obtain ⟨ns, hn, hz⟩ := hz
  subst hz
  have en := allBools_eq hn
  subst en
  obtain ⟨o, v, rfl, rfl, ho, e⟩ := one_of S hl h
  obtain ⟨a, xs, rfl, ha, ra⟩ := S.resL ho e
  rw [ra.bools] at ha
  exact ⟨a, ns, rfl, SqL.of ha, q _ G H (Same.refl _) ((zip_drop S).pushVa (.bl _))⟩
theorem ok_any : CallOk K (rAny K) (biD .any) := by
  intro R G0 G H env σ tmp os vs ds z Q S hl h hz q
  unfold biD at hz
  split at hz <;> try contradiction
  rw [Option.map_eq_some_iff] at hz
  obtain ⟨ns, hn, hz⟩ := hz
  subst hz
  have en := allBools_eq hn
  subst en
  obtain ⟨o, v, rfl, rfl, ho, e⟩ := one_of S hl h
  obtain ⟨a, xs, rfl, ha, ra⟩ := S.resL ho e
  rw [ra.bools] at ha
  exact ⟨a, ns, rfl, SqL.of ha, q _ G H (Same.refl _) ((zip_drop S).pushVa (.bl _))⟩
theorem insI_perm (x : Int) : ∀ l : List Int, (insI x l).Perm (x :: l)
  | [] => List.Perm.refl _
  | y :: r => by
    unfold insI
    split
    · exact List.Perm.refl _
    · exact ((insI_perm x r).cons y).trans (List.Perm.swap x y r)
theorem sortI_perm : ∀ l : List Int, (sortI l).Perm l
  | [] => List.Perm.refl _
  | x :: r => (insI_perm x _).trans ((sortI_perm r).cons x)
theorem insI_sorted (x : Int) : ∀ l : List Int, l.Pairwise (· ≤ ·) → (insI x l).Pairwise (· ≤ ·)
  | [], _ => List.pairwise_singleton _ _
  | y :: r, h => by
    obtain ⟨h1, h2⟩ := List.pairwise_cons.mp h
    unfold insI
    split
    · rename_i hle
      refine List.pairwise_cons.mpr ⟨fun z hz => ?_, h⟩
      rcases List.mem_cons.mp hz with e | e
      · omega
      · have := h1 z e
        omega
    · rename_i hle
      refine List.pairwise_cons.mpr ⟨fun z hz => ?_, insI_sorted x r h2⟩
      rcases List.mem_cons.mp ((insI_perm x r).mem_iff.mp hz) with e | e
      · omega
      · exact h1 z e
theorem sortI_sorted : ∀ l : List Int, (sortI l).Pairwise (· ≤ ·)
  | [] => List.Pairwise.nil
  | x :: r => insI_sorted x _ (sortI_sorted r)
theorem perm_sorted_eq : ∀ {a b : List Int}, a.Perm b → a.Pairwise (· ≤ ·) → b.Pairwise (· ≤ ·) → a = b := fun p ha hb => p.eq_of_pairwise (fun x y _ _ h1 h2 => Int.le_antisymm h1 h2) ha hb
theorem ok_sorted : CallOk K (rSortedI K) (biD .sorted) := by
  intro R G0 G H env σ tmp os vs ds z Q S hl h hz q
  unfold biD at hz
  split at hz <;> try contradiction
  rw [Option.map_eq_some_iff] at hz
  obtain ⟨ns, hn, hz⟩ := hz
  subst hz
  have en := allInts_eq hn
  subst en
  obtain ⟨o, v, rfl, rfl, ho, e⟩ := one_of S hl h
  obtain ⟨a, xs, rfl, ha, ra⟩ := S.resL ho e
  rw [ra.ints] at ha
  refine ⟨a, ns, rfl, SqL.of ha, fun ms p pm ps hp => ?_⟩
  have em : ms = sortI ns := perm_sorted_eq (pm.trans (sortI_perm ns).symm) ps (sortI_sorted ns)
  subst em
  exact q _ G _ (Same.refl _) ((zip_drop S).newL hp (RpAll.ofInts _))
def rDivmod : List V → Hp → VK → Prop := fun xs H Q => ∃ i j, xs = [.int i, .int j] ∧ CDivP i j ∧ ∀ p, H p = none → Q (.ref p) (upd H p (.tup [.int (i / j), .int (i % j)]))
theorem divP_of {i j : Int} (h0 : 0 < j) (h : j.natAbs.log2 < 9000) : CDivP i j := by
  refine ⟨h0, ?_⟩
  unfold Builtin.divisionGoesByPylong
  have hj : (j == 0) = false := beq_eq_false_iff_ne.mpr (by omega)
  simp only [hj, Bool.false_eq_true, if_false]
  have : ¬ (j.natAbs.log2 / 30 + 1 > 300) := by omega
  simp only [decide_eq_false this, Bool.false_and]
theorem ok_divmod : CallOk K rDivmod (biD .divmod) := by
  intro R G0 G H env σ tmp os vs ds z Q S hl h hz q
  unfold biD at hz
  split at hz <;> try contradiction
  split at hz
  · rename_i hd
    cases hz
    obtain ⟨v, w, rfl, r1, r2⟩ := two_of S hl h
    have e1 := r1.intI
    have e2 := r2.intI
    subst e1
    subst e2
    unfold divOk at hd
    simp only [Bool.and_eq_true, decide_eq_true_eq] at hd
    refine ⟨_, _, rfl, divP_of hd.1 hd.2, fun p hp => ?_⟩
    obtain ⟨S', g⟩ := (zip_drop S).newT hp (ds := [.int _, .int _]) (.cons (.int _) (.cons (.int _) .nil))
    exact q _ _ _ g S'
  · cases hz

/-! ### repr -/
mutual
theorem shown_wsz : ∀ d : PyData, d.canLay0 = true → d.shown.length ≤ wsz d
  | .none, _ => by decide
  | .bool true, _ => by decide
  | .bool false, _ => by decide
  | .int i, _ => by
    have h := int_text_length_le (a := i) (k := i.natAbs.log2 + 1) (by omega) (by omega)
    show (Str.ofString (toString i)).length ≤ i.natAbs.log2 + 3
    rw [PySem.ofString_length]
    omega
  | .str x, h => by
    have hx : ∀ c ∈ x.cps.toList, c < 16 ^ 8 := fun c hc => by
      have h' : PyData.strOk x = true := by simpa [PyData.canLay0] using h
      unfold PyData.strOk at h'
      have h2 := Array.all_eq_true.mp h'
      obtain ⟨i, hi, e⟩ := Array.mem_iff_getElem.mp (Array.mem_toList_iff.mp hc)
      have h3 := h2 i hi
      rw [e] at h3
      have h4 := of_decide_eq_true h3
      omega
    have := StrLaws.reprText_len x hx
    simpa [PyData.shown, wsz] using this
  | .list ds, h => by
    have h' : PyData.canLayAll0 ds = true := by simpa [PyData.canLay0] using h
    have h1 := listText_len_le (PyData.shownAll ds)
    have h2 := shownAll_wsz ds h'
    simp only [PyData.shown, wsz]
    have h3 := shownAll_len ds
    omega
  | .tuple ds, h => by
    have h' : PyData.canLayAll0 ds = true := by simpa [PyData.canLay0] using h
    have h1 := tupleText_len_le (PyData.shownAll ds)
    have h2 := shownAll_wsz ds h'
    simp only [PyData.shown, wsz]
    have h3 := shownAll_len ds
    omega
  | .dict _, h => by simp [PyData.canLay0] at h
theorem shownAll_wsz : ∀ ds : List PyData, PyData.canLayAll0 ds = true → ((PyData.shownAll ds).map (·.length)).sum + 2 * ds.length ≤ wszs ds
  | [], _ => by simp [PyData.shownAll, wszs]
  | d :: ds, h => by
    have h' : d.canLay0 = true ∧ PyData.canLayAll0 ds = true := by simpa [PyData.canLayAll0] using h
    have h1 := shown_wsz d h'.1
    have h2 := shownAll_wsz ds h'.2
    simp only [PyData.shownAll, wszs, List.map_cons, List.sum_cons, List.length_cons]
    omega
theorem shownAll_len : ∀ ds : List PyData, (PyData.shownAll ds).length = ds.length
  | [] => rfl
  | d :: ds => by
    have := shownAll_len ds
    simp only [PyData.shownAll, List.length_cons, this]
end
def rRepr (K : PySem.W.Frag) : List V → Hp → VK → Prop := fun vs H Q => ∃ v d, vs = [v] ∧ Rp K H v d ∧ reprOk d = true ∧ Q (.str d.shown) H
theorem cr_repr {X : Cx} (hg : X.A.guards = some []) (hu : X.A.units + 150 < cLine) : CallR X (.builtin "repr") (rRepr X.K) := by
  intro pins s σ H vs us Q I r h
  obtain ⟨v, d, rfl, rd, ok, q⟩ := h
  obtain ⟨u, rfl, rv⟩ := vals1 r
  unfold reprOk at ok
  simp only [Bool.and_eq_true, decide_eq_true_eq] at ok
  obtain ⟨⟨⟨hc, hsh⟩, hd⟩, hz⟩ := ok
  have hl := line_eq
  have hz' : d.shown.length ≤ sizeLine := by
    have := shown_wsz d hc
    omega
  obtain ⟨as, rr⟩ := Dp.reads I d v u (rd.dp d hc) rv
  have nd := PyData.hasDict_of_canLay d hc
  cases d with
  | none =>
    have e := rd.noneI
    subst e
    cases rv
    exact PySem.P.repr_of_none ⟨.str _, H, I.tok _, ⟨_, rfl⟩, q⟩
  | bool b =>
    have e := rd.boolI
    subst e
    cases rv
    exact PySem.P.repr_of_bool ⟨.str _, H, I.tok _, ⟨_, rfl⟩, by simpa [PyData.shown] using q⟩
  | int i =>
    have e := rd.intI
    subst e
    obtain ⟨t, rfl⟩ := rv
    exact PySem.P.repr_of_int (by simpa [PyData.showable] using hsh) ⟨.str _, H, I.tok _, ⟨_, rfl⟩, by simpa [PyData.shown] using q⟩
  | str x =>
    have e := rd.strI
    subst e
    obtain ⟨t, rfl⟩ := rv
    exact PySem.P.repr_of_str ⟨.str _, H, I.tok _, ⟨_, rfl⟩, by simpa [PyData.shown] using q⟩ (by simpa [PyData.shown] using hz')
  | list ds =>
    obtain ⟨a, xs, e, _⟩ := rd.listI
    subst e
    cases rv
    exact repr_of_reads' rr hsh (PyData.noDict_hsm nd) hg (by omega) (fun _ _ e => e) (fun h' u' tk hk => ⟨.str _, H, I.kept hk, ⟨_, rfl⟩, q⟩) hz'
  | tuple ds =>
    obtain ⟨a, xs, e, _⟩ := rd.tupI
    subst e
    cases rv
    exact repr_of_reads' rr hsh (PyData.noDict_hsm nd) hg (by omega) (fun _ _ e => e) (fun h' u' tk hk => ⟨.str _, H, I.kept hk, ⟨_, rfl⟩, q⟩) hz'
  | dict _ => simp [PyData.canLay0] at hc
theorem ok_repr : CallOk K (rRepr K) (biD .repr) := by
  intro R G0 G H env σ tmp os vs ds z Q S hl h hz q
  unfold biD at hz
  split at hz <;> try contradiction
  split at hz
  · rename_i hr
    cases hz
    obtain ⟨o, v, rfl, rfl, ho, e⟩ := one_of S hl h
    exact ⟨v, _, rfl, S.res ho e, hr, q _ G H (Same.refl _) ((zip_drop S).pushVa (.str _))⟩
  · cases hz
/-- repr of a list that is made for it -/
theorem ok_reprL {ta : TA} {fa : EnvD → Option (List Opd × EnvD)} (ha : TAok K ta fa) : TEok K (tCB (rRepr K) (tCons (tLst ta) tNil)) (fun env => (fa env).bind fun p => (ress p.2 p.1).bind fun ds => if reprOk (.list ds) then some (.va (.str (PyData.list ds).shown), p.2) else none) := by
  intro R G0 G H env σ tmp o env' Q S e q
  simp only [Option.bind_eq_some_iff] at e
  obtain ⟨⟨os, e1⟩, h1, ds, h2, e⟩ := e
  split at e
  · rename_i hr
    cases e
    refine ha _ _ _ _ _ _ _ _ _ _ S h1 fun vs G1 H1 hl g1 S1 => ?_
    have r := ress_rp _ _ _ S1 hl h2
    have hlen : vs.length ≤ sizeLine := by
      rw [r.len, line_eq]
      unfold reprOk at hr
      simp only [Bool.and_eq_true, decide_eq_true_eq] at hr
      have h3 := hr.2
      simp only [wsz] at h3
      have : ∀ l : List PyData, l.length ≤ wszs l := by
        intro l
        induction l with
        | nil => exact Nat.le_refl _
        | cons x l ih =>
          simp only [wszs, List.length_cons]
          omega
      have := this ds
      omega
    refine ⟨hlen, fun p hp => ⟨.ref p, .list ds, rfl, .lst upd_same (r.mono (same_new hp)), hr, ?_⟩⟩
    exact q _ G1 _ g1 (((zip_drop S1).grow (same_new hp)).pushVa (.str _))
  · cases e

/-! ### isinstance -/
def Ty.name : Ty → String
  | .int => "int" | .bool => "bool" | .str => "str" | .list => "list" | .tuple => "tuple" | .dict => "dict"
def tyName : PyData → String
  | .none => "NoneType" | .bool _ => "bool" | .int _ => "int" | .str _ => "str" | .list _ => "list" | .tuple _ => "tuple" | .dict _ => "dict"
theorem kit_is (d : PyData) (h : plainD d = true) (t : Ty) : kitB (tyName d) t.name = some (isTy d t) := by
  cases d with
  | none =>
    rw [show isTy (.none) t = isTy (.none) t by cases t <;> rfl]
    show kitB "NoneType" t.name = some (isTy (.none) t)
    cases t <;> decide +kernel
  | bool b =>
    rw [show isTy (.bool b) t = isTy (.bool true) t by cases t <;> rfl]
    show kitB "bool" t.name = some (isTy (.bool true) t)
    cases t <;> decide +kernel
  | int i =>
    rw [show isTy (.int i) t = isTy (.int 0) t by cases t <;> rfl]
    show kitB "int" t.name = some (isTy (.int 0) t)
    cases t <;> decide +kernel
  | str x =>
    rw [show isTy (.str x) t = isTy (.str Str.empty) t by cases t <;> rfl]
    show kitB "str" t.name = some (isTy (.str Str.empty) t)
    cases t <;> decide +kernel
  | list ds =>
    rw [show isTy (.list ds) t = isTy (.list []) t by cases t <;> rfl]
    show kitB "list" t.name = some (isTy (.list []) t)
    cases t <;> decide +kernel
  | tuple ds =>
    rw [show isTy (.tuple ds) t = isTy (.tuple []) t by cases t <;> rfl]
    show kitB "tuple" t.name = some (isTy (.tuple []) t)
    cases t <;> decide +kernel
  | dict _ => cases h
theorem tyX_of (h : plainD d = true) (r : Rp K H v d) : TyX K H v (.type (tyName d)) := by
  cases d with
  | none => have e := r.noneI; subst e; exact .base .non
  | bool b => have e := r.boolI; subst e; exact .base (.bl _)
  | int i => have e := r.intI; subst e; exact .base (.int _)
  | str x => have e := r.strI; subst e; exact .base (.str _)
  | list ds => obtain ⟨a, xs, e, ha, _⟩ := r.listI; subst e; exact .base (.lst ha)
  | tuple ds => obtain ⟨a, xs, e, ha, _⟩ := r.tupI; subst e; exact .base (.tup ha)
  | dict _ => cases h
theorem kitAny_is (d : PyData) (h : plainD d = true) : ∀ ts : List Ty, PySem.W.kitAny K (.type (tyName d)) (ts.map fun t => Value.type t.name) = some (ts.any (isTy d))
  | [] => kitAny_nil
  | t :: ts => by
    rw [List.map_cons, List.any_cons]
    refine kitAny_cons (kit_ty (kit_is d h t)) (fun hb => ?_) fun hb => ?_
    · rw [hb, Bool.false_or]
      exact kitAny_is d h ts
    · rw [hb, Bool.true_or]
theorem ok_isi1 {t : Ty} {ta : TE} {fa : EnvD → Option (Opd × EnvD)} (ha : TEok K ta fa) : TEok K (tCB (rIsi K) (tCons ta (tCons (tC (.ty t.name)) tNil))) (fun env => (fa env).bind fun p => (res p.2 p.1).bind fun d => if plainD d && decide ([t].length ≤ 100) then some (.va (.bool ([t].any (isTy d))), p.2) else none) := by
  intro R G0 G H env σ tmp o env' Q S e q
  simp only [Option.bind_eq_some_iff] at e
  obtain ⟨⟨o1, e1⟩, h1, d, h2, e⟩ := e
  split at e
  · rename_i hp
    simp only [Bool.and_eq_true, decide_eq_true_eq] at hp
    replace hp := hp.1
    cases e
    refine ha _ _ _ _ _ _ _ _ _ _ S h1 fun v G1 H1 g1 S1 => ?_
    have r := S1.res S1.top h2
    refine ⟨v, .ty t.name, .type (tyName d), .type t.name, _, rfl, .ty _, tyX_of hp r, kit_ty (kit_is d hp t), ?_⟩
    have e : [t].any (isTy d) = isTy d t := by simp
    rw [e] at q
    exact q _ G1 H1 g1 (S1.pop.pushVa (.bl _))
  · cases e
def tysV (ts : List Ty) : List V := ts.map fun t => V.ty t.name
def tTys (ts : List Ty) : TA := fun _ H Q => Q (tysV ts) H
theorem paired_tys : ∀ ts : List Ty, Paired ClsV (tysV ts) (ts.map fun t => Value.type t.name)
  | [] => .nil
  | t :: ts => .cons (.ty _) (paired_tys ts)
theorem ok_isiT {ts : List Ty} {ta : TE} {fa : EnvD → Option (Opd × EnvD)} (ha : TEok K ta fa) : TEok K (tCB (rIsiT K) (tCons ta (tCons (tTup (tTys ts)) tNil))) (fun env => (fa env).bind fun p => (res p.2 p.1).bind fun d => if plainD d && decide (ts.length ≤ 100) then some (.va (.bool (ts.any (isTy d))), p.2) else none) := by
  intro R G0 G H env σ tmp o env' Q S e q
  simp only [Option.bind_eq_some_iff] at e
  obtain ⟨⟨o1, e1⟩, h1, d, h2, e⟩ := e
  split at e
  · rename_i hp
    simp only [Bool.and_eq_true, decide_eq_true_eq] at hp
    obtain ⟨hp, hts⟩ := hp
    cases e
    refine ha _ _ _ _ _ _ _ _ _ _ S h1 fun v G1 H1 g1 S1 => ?_
    have r := S1.res S1.top h2
    · refine ⟨?_, fun p hp' => ?_⟩
      · unfold tysV
        rw [List.length_map, line_eq]
        omega
      · refine ⟨v, p, tysV ts, .type (tyName d), _, _, rfl, upd_same, paired_tys ts, tyX_of hp (r.mono (same_new hp')), kitAny_is d hp ts, ?_⟩
        exact q _ G1 _ g1 ((S1.pop.grow (same_new hp')).pushVa (.bl _))
  · cases e
end
end Pd

/-! targets, what loops walk, comprehensions, lists that are changed, calls of defs -/
namespace Pd
open PySem PySem.Spec PyProof.Rows L2

/-! ### behind a call -/
section
variable {K : PySem.W.Frag} {R : RR} {G0 G G' H H' : Hp} {env env' : EnvD} {σ : L2.St} {tmp : Tmp} {o : Opd} {v : V} {d : PyData}
theorem SR.after (S : SR K R G0 G H env σ tmp) (g : Same G G') (gr : ∀ b, G' b ≠ none → G b ≠ none ∨ H b = none) (hh : Same G' H') (hk : Same H H') : SR K R G0 G' H' env σ tmp := by
  have hfree : ∀ a, G a = none → (∃ xs, H a = some (.lst xs)) → G' a = none := fun a h1 ⟨xs, h2⟩ => by
    cases e : G' a with
    | none => rfl
    | some o =>
      rcases gr a (by rw [e]; simp) with z | z
      · exact absurd h1 z
      · rw [h2] at z
        cases z
  refine ⟨hh, S.rh.trans hk, S.g0.trans g, fun b hb => ?_, S.len, fun i c h => (S.slot i c h).keep g fun a xs _ _ h => hk a _ h, fun i a h => ⟨hfree a (S.free i a h).1 (S.ownH h), (S.free i a h).2⟩, S.apart, fun q hq => (S.tm q hq).keep g fun a xs _ _ h => hk a _ h,
    fun a h => ⟨hfree a (S.freeT a h).1 (S.ownTH h), (S.freeT a h).2⟩, S.nd, S.cross, S.iod⟩
  rcases gr b hb with z | z
  · exact S.gr b z
  · exact .inr (S.rh.free z)
/-- what a call hands back -/
def RvR (K : PySem.W.Frag) (H0 G' H' : Hp) : Rv → V → Prop
  | .va d, v => Rp K G' v d
  | .ow ds, v => ∃ p xs, v = .ref p ∧ H0 p = none ∧ G' p = none ∧ H' p = some (.lst xs) ∧ RpAll K G' xs ds
theorem SR.pushRv {r : Rv} {H0 : Hp} (S : SR K R G0 G' H' env σ tmp) (h : RvR K H0 G' H' r v) (hR : Same R.h H0) (ho : ∀ i a, OwnS env σ i a → H0 a ≠ none) (ht : ∀ a, a ∈ ownT tmp → H0 a ≠ none) : SR K R G0 G' H' env σ ((r.opd, v) :: tmp) := by
  cases r with
  | va d => exact S.pushVa h
  | ow ds =>
    obtain ⟨p, xs, e, h0, hg, hh, ra⟩ := h
    subst e
    refine ⟨S.gh, S.rh, S.g0, S.gr, S.len, S.slot, S.free, S.apart, fun q hq => ?_, fun a ha => ?_, ?_, fun i a hi ha => ?_, S.iod⟩
    · rcases List.mem_cons.mp hq with z | z
      · subst z
        exact ⟨p, xs, rfl, hh, ra⟩
      · exact S.tm q z
    · have ha : a ∈ ownT ((Opd.ow ds, V.ref p) :: tmp) := ha
      rw [ownT_ow] at ha
      rcases List.mem_cons.mp ha with z | z
      · subst z
        exact ⟨hg, hR.free h0⟩
      · exact S.freeT a z
    · show (ownT ((Opd.ow ds, V.ref p) :: tmp)).Nodup
      rw [ownT_ow]
      exact List.nodup_cons.mpr ⟨fun z => ht p z h0, S.nd⟩
    · have ha : a ∈ ownT ((Opd.ow ds, V.ref p) :: tmp) := ha
      rw [ownT_ow] at ha
      rcases List.mem_cons.mp ha with z | z
      · subst z
        exact ho i a hi h0
      · exact S.cross i a hi z
end

/-- what a def promises, of data -/
def spD (K : PySem.W.Frag) (g : Sig) : Sp := fun vs H Q _ =>
  (g.io = false ∧ ∃ (G : Hp) (ds : List PyData) (r : Rv) (x : List PyData), Same G H ∧ RpAll K G vs ds ∧ g.run ds = some (r, x) ∧
    ∀ v G' H', Same G G' → (∀ b, G' b ≠ none → G b ≠ none ∨ H b = none) → Same G' H' → Same H H' → RvR K H G' H' r v → Q v H') ∨
  (g.io = true ∧ ∃ (G : Hp) (a : Addr) (xs : List V) (ds0 : List PyData) (ws : List V) (ds : List PyData) (r : Rv) (x : List PyData), vs = .ref a :: ws ∧ Same G H ∧ H a = some (.lst xs) ∧ G a = none ∧ RpAll K G xs ds0 ∧ RpAll K G ws ds ∧
    g.run (.list ds0 :: ds) = some (r, x) ∧
    ∀ v G' H' ys, Same G G' → (∀ b, G' b ≠ none → G b ≠ none ∨ H b = none) → Same G' H' → (∀ b o, b ≠ a → H b = some o → H' b = some o) → H' a = some (.lst ys) → RpAll K G' ys x → RvR K H G' H' r v → Q v H')

/-- a def keeps its promise where nothing shows itself (no repr is under way) -/
structure FnD (P : Program) (w : World) (K : PySem.W.Frag) (mg : Str → Option Value) (base : Heap) (k : Nat) (f : Addr) (fd : FuncData) (ps : List Str) (sp : Sp) : Prop where
  len : ∀ vs H Q E, sp vs H Q E → vs.length = ps.length
  run : ∀ (A : Around) (outer : List Env) (s : Shared) (H : Hp) (args : Args) (us : List Value) (vs : List V) (Q : VK) (E : XK), Room k A → A.guards = some [] → Env0 P w K mg base A outer s H → BindsTo s fd args (ps.zip us) → Vals vs us → sp vs H Q E →
    codeAny (model P w) A (.call (.ref f) args) (CR CX0 outer P w H s Q E) s
theorem FnD.mono {P : Program} {w : World} {K : PySem.W.Frag} {mg : Str → Option Value} {base : Heap} {j k : Nat} {f : Addr} {fd : FuncData} {ps : List Str} {sp : Sp} (F : FnD P w K mg base j f fd ps sp) (h : j ≤ k) : FnD P w K mg base k f fd ps sp :=
  ⟨F.len, fun A outer s H args us vs Q E hr => F.run A outer s H args us vs Q E (hr.mono h)⟩

/-! ### a call -/
def permF {α : Type} (xs : List α) (pm : List Nat) : List α := pm.filterMap fun j => xs[j]?
theorem permF_vals {vs : List V} {us : List Value} (h : Vals vs us) : ∀ pm : List Nat, Vals (permF vs pm) (permF us pm)
  | [] => .nil
  | j :: pm => by
    unfold permF
    rw [List.filterMap_cons, List.filterMap_cons]
    cases e : vs[j]? with
    | none =>
      rw [h.none_of e]
      exact permF_vals h pm
    | some x =>
      obtain ⟨u, hu, r⟩ := h.get e
      rw [hu]
      exact .cons r (permF_vals h pm)
theorem perm_rp {K : PySem.W.Frag} {G : Hp} {vs : List V} {ds : List PyData} (r : RpAll K G vs ds) : ∀ (pm : List Nat) (as : List PyData), perm ds pm = some as → RpAll K G (permF vs pm) as
  | [], as, h => by
    cases h
    exact .nil
  | j :: pm, as, h => by
    unfold perm at h
    simp only [Option.bind_eq_some_iff] at h
    obtain ⟨x, hx, ys, hy, e⟩ := h
    cases e
    obtain ⟨v, hv, rv⟩ := r.get hx
    unfold permF
    rw [List.filterMap_cons, hv]
    exact .cons rv (perm_rp r pm ys hy)
theorem permF_from {α : Type} : ∀ (xs ys : List α), permF (ys ++ xs) (List.range' ys.length xs.length) = xs
  | [], ys => rfl
  | x :: xs, ys => by
    have ih := permF_from xs (ys ++ [x])
    rw [List.length_append, List.append_assoc] at ih
    have ih : permF (ys ++ x :: xs) (List.range' (ys.length + 1) xs.length) = xs := ih
    rw [List.length_cons, List.range'_succ]
    unfold permF at ih ⊢
    rw [List.filterMap_cons, List.getElem?_append_right (Nat.le_refl _), Nat.sub_self]
    show x :: _ = _
    rw [ih]
theorem permF_range {α : Type} (xs : List α) : permF xs (List.range xs.length) = xs := by
  rw [List.range_eq_range']
  exact permF_from xs []
/-- f(.., k = ..): the values in the parameters' order -/
def tCallD (sp : Sp) (m n : Nat) (pm : List Nat) (t tk : TA) : TE := fun σ H Q => t σ H fun vs H1 => tk σ H1 fun zs H2 => vs.length = m ∧ zs.length = n ∧ sp (permF (vs ++ zs) pm) H2 Q E0
section
variable {X : Cx}
theorem starEach_plain (env : Env) : ∀ es : List Expr, plainArgs es = true → starEach es env = es.map fun e => (false, eval e env)
  | [], _ => rfl
  | e :: es, h => by
    have h1 : plainArgs es = true ∧ starEach (e :: es) env = (false, eval e env) :: starEach es env := by
      cases e <;> first | exact ⟨h, rfl⟩ | (simp [plainArgs] at h)
    rw [h1.2, starEach_plain env es h1.1]
    rfl
theorem plainArgs_cons {e : Expr} {es : List Expr} (h : plainArgs (e :: es) = true) : plainArgs es = true := by
  cases e <;> first | exact h | (simp [plainArgs] at h)
theorem plainArgs_app {es fs : List Expr} : plainArgs (es ++ fs) = true → plainArgs es = true ∧ plainArgs fs = true := by
  induction es with
  | nil => exact fun h => ⟨rfl, h⟩
  | cons e es ih =>
    intro h
    cases e <;> first | exact ih h | (simp [plainArgs] at h)
theorem star_cons (env : Env) {e : Expr} {es : List Expr} (h : plainArgs (e :: es) = true) : starEach (e :: es) env = (false, eval e env) :: starEach es env := by
  rw [starEach_plain env _ h, starEach_plain env _ (plainArgs_cons h)]
  rfl
theorem star_any (env : Env) (pos : Pos) {es : List Expr} (h : plainArgs es = true) : (backTo pos (starEach es env)).any (·.1) = false := by
  rw [starEach_plain env _ h]
  unfold backTo
  rw [List.map_map, List.any_map]
  exact List.any_eq_false.mpr fun _ _ => by simp
theorem star_all (env : Env) (pos : Pos) {es : List Expr} (h : plainArgs es = true) : (backTo pos (starEach es env)).all (fun x => !x.1) = true := by
  rw [starEach_plain env _ h]
  unfold backTo
  rw [List.map_map, List.all_map]
  exact List.all_eq_true.mpr fun _ _ => by simp
theorem kw_names (env : Env) (pos : Pos) : ∀ {kws : List Keyword} {ks : List Str}, kwNames kws = some ks →
    (backToKw pos (keywordEach kws env)).all (·.1.isSome) = true ∧ (backToKw pos (keywordEach kws env)).filterMap (·.1) = ks ∧ (backToKw pos (keywordEach kws env)).any (·.1.isNone) = false
  | [], ks, h => by
    cases h
    exact ⟨rfl, rfl, rfl⟩
  | ⟨some k, e, p⟩ :: r, ks, h => by
    unfold kwNames at h
    rw [Option.bind_eq_some_iff] at h
    obtain ⟨ks', h1, h2⟩ := h
    cases h2
    obtain ⟨a, b, c⟩ := kw_names env pos h1
    have hc : backToKw pos (keywordEach (⟨some k, e, p⟩ :: r) env) = (some k, do let v ← eval e env; standAt pos; pure v) :: backToKw pos (keywordEach r env) := rfl
    rw [hc]
    refine ⟨?_, ?_, ?_⟩
    · rw [List.all_cons, a]
      rfl
    · rw [List.filterMap_cons, b]
    · rw [List.any_cons, c]
      rfl
  | ⟨none, e, p⟩ :: r, ks, h => by cases h

/-- how a call's values come to the parameters -/
def BindsD (K : PySem.W.Frag) (fd : FuncData) (ps : List Str) (m : Nat) (ks : List Str) (pm : List Nat) : Prop :=
  ∀ (s : Shared) (us ws : List Value), K.In s.heap → us.length = m → ws.length = ks.length → BindsTo s fd ⟨us, ks.zip ws⟩ (ps.zip (permF (us ++ ws) pm))
variable {k : Nat} {f : Addr} {fd : FuncData} {ps ks : List Str} {sp : Sp} {x : Str} {p pos : Pos} {es : List Expr} {kws : List Keyword} {t tk : TA} {m : Nat} {pm : List Nat}
theorem run_fnD {pins : List (Addr × Obj)} {σ : L2.St} {H : Hp} {s : Shared} {Q : VK} {us ws : List Value} {vs zs : List V} (F : FnD X.prog X.w X.K X.mg X.base k f fd ps sp) (hr : Room k X.A) (hg : X.A.guards = some []) (hb : BindsD X.K fd ps m ks pm)
    (I : Inv X pins σ H s) (r : Vals vs us) (rz : Vals zs ws) (h : vs.length = m ∧ zs.length = ks.length ∧ sp (permF (vs ++ zs) pm) H Q E0) : wpAny (model X.prog X.w) X.A (call (.ref f) us (ks.zip ws)) (EP X pins σ Q) X.xe s := by
  obtain ⟨l1, l2, h⟩ := h
  have lu : us.length = m := by rw [← r.length]; exact l1
  have lw : ws.length = ks.length := by rw [← rz.length]; exact l2
  refine wpAny_call (codeAny_mono (F.run X.A X.stack s H ⟨us, ks.zip ws⟩ (permF (us ++ ws) pm) (permF (vs ++ zs) pm) Q E0 hr hg I.env0 (hb s us ws I.kIn lu lw) (permF_vals (r.append rz) pm) h) fun r s' hq => ?_)
  cases r with
  | error e => exact False.elim hq
  | ok fl =>
    cases fl with
    | ret u => exact I.after hq
    | next => exact False.elim hq
    | brk => exact False.elim hq
    | cont => exact False.elim hq
theorem pe_callD {e : Expr} {rest : List Expr} (F : FnD X.prog X.w X.K X.mg X.base k f fd ps sp) (hr : Room k X.A) (hg : X.A.guards = some []) (hgl : Gl X x) (hm : X.mg x = some (.ref f)) (hk : PySem.W.keepIn X.K (.ref f) = true) (hb : BindsD X.K fd ps m ks pm)
    (hpl : plainArgs (e :: rest) = true) (hks : kwNames kws = some ks) (ha : PA X (e :: rest) t) (hkw : PK X kws tk) (hdb : (x == ("__debug__" : Str)) = false) : PE X (.Call (.Name x p) (e :: rest) kws pos) (tCallD sp m ks.length pm t tk) := by
  refine ⟨fun pins s σ H Q I h => ?_⟩
  refine wpAny_Call_Name_kw (ld_glob I hgl hm ?_ hdb)
  obtain ⟨k1, k2, k3⟩ := kw_names X.env pos hks
  refine PySem.W.callWith_KW (h₀ := X.base) I.ok.mod.kin hk k1 (thn (ha.run pos pins s σ H _ I h) fun us s1 ⟨vs, H1, I1, r, q⟩ => ?_) ?_ (star_cons X.env hpl)
  · refine thn (hkw.run pos pins s1 σ H1 _ I1 q) fun ws s2 ⟨zs, H2, I2, rz, q2⟩ => ⟨I2.kIn, ?_⟩
    rw [k2]
    exact run_fnD F hr hg hb I2 r rz q2
  · rw [star_any X.env pos hpl, k3]
    rfl
theorem pe_callD0 (F : FnD X.prog X.w X.K X.mg X.base k f fd ps sp) (hr : Room k X.A) (hg : X.A.guards = some []) (hgl : Gl X x) (hm : X.mg x = some (.ref f)) (hk : PySem.W.keepIn X.K (.ref f) = true) (hb : BindsD X.K fd ps m ks pm)
    (hks : kwNames kws = some ks) (hkw : PK X kws tk) (hdb : (x == ("__debug__" : Str)) = false) : PE X (.Call (.Name x p) [] kws pos) (tCallD sp m ks.length pm tNil tk) := by
  refine ⟨fun pins s σ H Q I h => ?_⟩
  refine wpAny_Call_Name_kw (ld_glob I hgl hm ?_ hdb)
  obtain ⟨k1, k2, k3⟩ := kw_names X.env pos hks
  refine PySem.W.callWith_KW0 (h₀ := X.base) I.ok.mod.kin hk k1 ?_ ?_
  · refine thn (hkw.run pos pins s σ H _ I h) fun ws s2 ⟨zs, H2, I2, rz, q2⟩ => ⟨I2.kIn, ?_⟩
    rw [k2]
    exact run_fnD F hr hg hb I2 .nil rz q2
  · rw [k3]
    rfl

/-- a list that no one knows any more is written -/
theorem SR.off {K : PySem.W.Frag} {R : RR} {G0 G H H' : Hp} {env : EnvD} {σ : L2.St} {tmp : Tmp} {a : Addr} (S : SR K R G0 G H env σ tmp) (hG : G a = none) (hR : R.h a = none) (h1 : ∀ i, ¬ OwnS env σ i a) (h2 : a ∉ ownT tmp) (hk : ∀ b o, b ≠ a → H b = some o → H' b = some o) : SR K R G0 G H' env σ tmp := by
  refine ⟨fun b o z => hk b o (fun q => ?_) (S.gh b o z), fun b o z => hk b o (fun q => ?_) (S.rh b o z), S.g0, S.gr, S.len, fun j k q => ?_, S.free, S.apart, fun q hq => ?_, S.freeT, S.nd, S.cross, S.iod⟩
  · rw [q, hG] at z
    cases z
  · rw [q, hR] at z
    cases z
  · exact (S.slot j k q).keep (Same.refl _) fun b us hb e1 e2 => hk b _ (fun w => by
      obtain ⟨es', hb⟩ := hb
      refine h1 j ⟨⟨es', ?_⟩, by rw [← w]; exact e1⟩
      rcases hb with hb | hb
      · exact .inl (hb ▸ q)
      · exact .inr (hb ▸ q)) e2
  · refine (S.tm q hq).keep (Same.refl _) fun b us hb e1 e2 => hk b _ (fun w => ?_) e2
    obtain ⟨es', hb⟩ := hb
    obtain ⟨o, w'⟩ := q
    have hb : o = .ow es' := hb
    have e1 : w' = .ref b := e1
    subst hb
    subst e1
    subst w
    refine h2 ?_
    have mem_own : ∀ {t : Tmp}, (Opd.ow es', V.ref b) ∈ t → b ∈ ownT t := by
      intro t
      induction t with
      | nil => intro z; cases z
      | cons q t ih =>
        intro z
        rcases List.mem_cons.mp z with z | z
        · subst z
          exact List.mem_cons_self
        · exact ownT_sub b (ih z)
    exact mem_own hq
/-- the values of a call, then the def's work -/
theorem call_data {K : PySem.W.Frag} {R : RR} {G0 G H : Hp} {env env' : EnvD} {σ : L2.St} {tmp : Tmp} {g : Sig} {os : List Opd} {vs : List V} {pm : List Nat} {o : Opd} {Q : VK} (S : SR K R G0 G H env σ (os.zip vs ++ tmp)) (hl : os.length = vs.length)
    (h : callF g pm env os = some (o, env'))
    (q : ∀ v G' H', Same G G' → SR K R G0 G' H' env' σ ((o, v) :: tmp) → Q v H') : spD K g (permF vs pm) H Q E0 := by
  unfold callF at h
  cases hio : g.io with
  | false =>
    rw [hio] at h
    dsimp only at h
    simp only [Option.bind_eq_some_iff] at h
    obtain ⟨⟨ds, e1⟩, h1, as, h2, ⟨r, x⟩, h3, e⟩ := h
    cases e
    obtain ⟨G1, g1, S1, r1⟩ := frzs_ok _ _ _ _ _ S hl h1
    refine .inl ⟨hio, G1, as, r, x, S1.gh, perm_rp r1 pm as h2, h3, fun v G' H' gg gr hh hk rv => ?_⟩
    have S2 := S1.after gg gr hh hk
    exact q v G' H' (g1.trans gg) (S2.pushRv rv S1.rh (fun i a ha => by
      obtain ⟨xs, z⟩ := S1.ownH ha
      rw [z]
      simp) fun a ha => by
      obtain ⟨xs, z⟩ := S1.ownTH ha
      rw [z]
      simp)
  | true =>
    rw [hio] at h
    dsimp only at h
    cases os with
    | nil => cases h
    | cons o1 rs =>
      cases o1 with
      | va d => cases h
      | ow ds0 =>
        dsimp only at h
        split at h
        · rename_i hpm
          subst hpm
          cases vs with
          | nil => cases hl
          | cons v1 ws =>
            rw [show rs.length + 1 = (v1 :: ws).length from hl, permF_range]
            simp only [Option.bind_eq_some_iff] at h
            obtain ⟨⟨ds, e1⟩, h1, ⟨r, x⟩, hrun, e⟩ := h
            cases e
            have S0 : SR K R G0 G H env σ (rs.zip ws ++ ((.ow ds0, v1) :: tmp)) := S.perm (List.perm_middle.symm)
            obtain ⟨G1, g1, S1, r1⟩ := frzs_ok _ _ _ _ _ S0 (by simpa using hl) h1
            obtain ⟨a, xs, ea, ha, ra⟩ := S1.top
            have ea : v1 = .ref a := ea
            subst ea
            have fr := S1.freeT a (by rw [ownT_ow]; exact List.mem_cons_self)
            have nd := S1.nd
            rw [ownT_ow] at nd
            have nt : a ∉ ownT tmp := (List.nodup_cons.mp nd).1
            have ns : ∀ i, ¬ OwnS e1 σ i a := fun i hi => S1.cross i a hi (by rw [ownT_ow]; exact List.mem_cons_self)
            refine .inr ⟨hio, G1, a, xs, ds0, ws, ds, r, x, rfl, S1.gh, ha, fr.1, ra, r1, hrun, fun v G' H' ys gg gr hh hk hy ry rv => ?_⟩
            have hG'a : G' a = none := by
              cases z : G' a with
              | none => rfl
              | some o' =>
                rcases gr a (by rw [z]; simp) with w | w
                · exact absurd fr.1 w
                · rw [ha] at w
                  cases w
            let H2 : Hp := fun b => if b = a then H a else H' b
            have S2 : SR K R G0 G' H2 e1 σ tmp := S1.pop.after gg gr (fun b o' z => by
              have nb : b ≠ a := fun w => by
                rw [w, hG'a] at z
                cases z
              show (if b = a then H a else H' b) = some o'
              rw [if_neg nb]
              exact hh b o' z) fun b o' z => by
              show (if b = a then H a else H' b) = some o'
              by_cases nb : b = a
              · rw [if_pos nb, ← nb]
                exact z
              · rw [if_neg nb]
                exact hk b o' nb z
            have S3 : SR K R G0 G' H' e1 σ tmp := S2.off hG'a fr.2 ns nt fun b o' nb z => by
              have z : (if b = a then H a else H' b) = some o' := z
              rw [if_neg nb] at z
              exact z
            refine q v G' H' (g1.trans gg) (S3.pushRv rv S1.rh (fun j b hb => ?_) fun b hb => ?_)
            · obtain ⟨us, z⟩ := S1.ownH hb
              rw [z]
              simp
            · obtain ⟨us, z⟩ := S1.pop.ownTH hb
              rw [z]
              simp
        · cases h
      | sl i =>
        dsimp only at h
        split at h
        · rename_i hpm
          subst hpm
          cases vs with
          | nil => cases hl
          | cons v1 ws =>
            rw [show rs.length + 1 = (v1 :: ws).length from hl, permF_range]
            simp only [Option.bind_eq_some_iff] at h
            obtain ⟨⟨ds, e1⟩, h1, h⟩ := h
            have ev : σ[i]? = some (some v1) := S.tm (Opd.sl i, v1) List.mem_cons_self
            have S0 : SR K R G0 G H env σ (rs.zip ws ++ tmp) := S.sub (List.sublist_cons_self _ _)
            obtain ⟨G1, g1, S1, r1⟩ := frzs_ok _ _ _ _ _ S0 (by simpa using hl) h1
            have fin : ∀ (ds0 : List PyData) (c : List PyData → Cell), (c = .ow ∨ c = .io) → e1[i]? = some (c ds0) → ∀ (r : Rv) (x : List PyData), g.run (.list ds0 :: ds) = some (r, x) → o = r.opd → env' = e1.set i (c x) → spD K g (v1 :: ws) H Q E0 := by
              intro ds0 c hc hi r x hrun ho he
              subst ho
              subst he
              have hcell : ∃ a xs, σ[i]? = some (some (.ref a)) ∧ H a = some (.lst xs) ∧ RpAll K G1 xs ds0 := by
                have z := S1.slot i _ hi
                rcases hc with z1 | z1 <;> subst z1 <;> exact z
              obtain ⟨a, xs, ea, ha, ra⟩ := hcell
              rw [ev] at ea
              cases ea
              have hO : OwnS e1 σ i a := by
                rcases hc with z1 | z1 <;> subst z1
                · exact ⟨⟨ds0, .inl hi⟩, ev⟩
                · exact ⟨⟨ds0, .inr hi⟩, ev⟩
              have fr := S1.free i a hO
              refine .inr ⟨hio, G1, a, xs, ds0, ws, ds, r, x, rfl, S1.gh, ha, fr.1, ra, r1, hrun, fun v G' H' ys gg gr hh hk hy ry rv => ?_⟩
              -- the heap behind the call, but for the list itself
              have hG'a : G' a = none := by
                cases z : G' a with
                | none => rfl
                | some o' =>
                  rcases gr a (by rw [z]; simp) with w | w
                  · exact absurd fr.1 w
                  · rw [ha] at w
                    cases w
              let H2 : Hp := fun b => if b = a then H a else H' b
              have S2 : SR K R G0 G' H2 e1 σ tmp := S1.after gg gr (fun b o' z => by
                have nb : b ≠ a := fun w => by
                  rw [w, hG'a] at z
                  cases z
                show (if b = a then H a else H' b) = some o'
                rw [if_neg nb]
                exact hh b o' z) fun b o' z => by
                show (if b = a then H a else H' b) = some o'
                by_cases nb : b = a
                · rw [if_pos nb, ← nb]
                  exact z
                · rw [if_neg nb]
                  exact hk b o' nb z
              have S3 : SR K R G0 G' H' (e1.set i (c x)) σ tmp := S2.write hO (es := x) (by rcases hc with z1 | z1 <;> subst z1 <;> first | exact .inl rfl | exact .inr ⟨rfl, _, hi⟩) ry H' (by
                funext b
                by_cases nb : b = a
                · subst nb
                  rw [upd_same, hy]
                · rw [upd_ne nb]
                  show H' b = if b = a then H a else H' b
                  rw [if_neg nb])
              refine q v G' H' (g1.trans gg) (S3.pushRv rv S1.rh (fun j b hb => ?_) fun b hb => ?_)
              · have hb1 : ∃ us, H b = some (.lst us) := by
                  by_cases hj : j = i
                  · subst hj
                    have := hb.2
                    rw [ev] at this
                    cases this
                    exact ⟨xs, ha⟩
                  · refine S1.ownH (i := j) ⟨?_, hb.2⟩
                    obtain ⟨us, z⟩ := hb.1
                    rw [List.getElem?_set_ne (Ne.symm hj)] at z
                    exact ⟨us, z⟩
                obtain ⟨us, z⟩ := hb1
                rw [z]
                simp
              · obtain ⟨us, z⟩ := S1.ownTH hb
                rw [z]
                simp
            dsimp only at h
            split at h
            · rename_i ds0 hi
              rw [Option.bind_eq_some_iff] at h
              obtain ⟨⟨r, x⟩, hrun, e⟩ := h
              cases e
              exact fin ds0 .ow (.inl rfl) hi r x hrun rfl rfl
            · rename_i ds0 hi
              rw [Option.bind_eq_some_iff] at h
              obtain ⟨⟨r, x⟩, hrun, e⟩ := h
              cases e
              exact fin ds0 .io (.inr rfl) hi r x hrun rfl rfl
            · cases h
        · cases h
theorem ok_callD {K : PySem.W.Frag} {Γ : Tab} {n : Nat} {g : Sig} {pm : List Nat} {m l : Nat} {ta tk : TA} {fa fk : EnvD → Option (List Opd × EnvD)} (hg : Γ n = some g) (ha : TAok K ta fa) (hk : TAok K tk fk) (hm : ∀ e p, fa e = some p → p.1.length = m) (hl : ∀ e p, fk e = some p → p.1.length = l) :
    TEok K (tCallD (spD K g) m l pm ta tk) (fun env => (fa env).bind fun p0 => (fk p0.2).bind fun p => (Γ n).bind fun g => callF g pm p.2 (p0.1 ++ p.1)) := by
  intro R G0 G H env σ tmp o env' Q S e q
  simp only [Option.bind_eq_some_iff] at e
  obtain ⟨⟨os1, e1⟩, h1, ⟨os2, e2⟩, h2, g', hg', e⟩ := e
  rw [hg] at hg'
  cases hg'
  refine ha _ _ _ _ _ _ _ _ _ _ S h1 fun vs G1 H1 l1 g1 S1 => ?_
  refine hk _ _ _ _ _ _ _ _ _ _ S1 h2 fun zs G2 H2 l2 g2 S2 => ?_
  refine ⟨by rw [← l1]; exact hm _ _ h1, by rw [← l2]; exact hl _ _ h2, ?_⟩
  have S3 : SR K R G0 G2 H2 e2 σ ((os1 ++ os2).zip (vs ++ zs) ++ tmp) := by
    rw [List.zip_append l1]
    refine S2.perm ?_
    rw [← List.append_assoc]
    exact List.Perm.append_right _ List.perm_append_comm
  exact call_data S3 (by rw [List.length_append, List.length_append, l1, l2]) e fun v G' H' g3 S4 => q v G' H' (g1.trans (g2.trans g3)) S4
end
end Pd

/-! targets, what loops walk, comprehensions -/
namespace Pd
open PySem PySem.Spec PyProof.Rows L2

/-! ### targets -/
def Wp (ix : List Nat) (σ σ' : L2.St) : Prop := σ'.length = σ.length ∧ ∀ own : List Nat, (∀ i ∈ ix, i ∈ own) → wipe σ' own = wipe σ own
theorem Wp.refl {ix : List Nat} {σ : L2.St} : Wp ix σ σ := ⟨rfl, fun _ _ => rfl⟩
theorem Wp.trans {ix iy : List Nat} {σ σ1 σ2 : L2.St} (a : Wp ix σ σ1) (b : Wp iy σ1 σ2) : Wp (ix ++ iy) σ σ2 :=
  ⟨b.1.trans a.1, fun own h => (b.2 own fun i hi => h i (List.mem_append_right _ hi)).trans (a.2 own fun i hi => h i (List.mem_append_left _ hi))⟩
theorem wipe_set {σ : L2.St} {i : Nat} {x : Option V} : ∀ {own : List Nat}, i ∈ own → wipe (σ.set i x) own = wipe σ own
  | [], h => by cases h
  | j :: own, h => by
    unfold wipe
    by_cases hi : i ∈ own
    · rw [wipe_set hi]
    · have e : i = j := by
        rcases List.mem_cons.mp h with z | z
        · exact z
        · exact absurd z hi
      subst e
      have c : ∀ (own : List Nat), i ∉ own → ∀ σ : L2.St, (wipe (σ.set i x) own).set i none = (wipe σ own).set i none := by
        intro own
        induction own with
        | nil =>
          intro _ σ
          show (σ.set i x).set i none = σ.set i none
          rw [List.set_set]
        | cons k own ih =>
          intro hk σ
          have h1 : i ≠ k := fun e => hk (by rw [e]; exact List.mem_cons_self)
          have h2 : i ∉ own := fun z => hk (List.mem_cons_of_mem _ z)
          show ((wipe (σ.set i x) own).set k none).set i none = ((wipe σ own).set k none).set i none
          rw [List.set_comm _ _ (Ne.symm h1), ih h2 σ, List.set_comm _ _ h1]
      exact c own hi σ
theorem Wp.set {σ : L2.St} {i : Nat} {x : Option V} : Wp [i] σ (σ.set i x) := ⟨List.length_set, fun own h => wipe_set (h i List.mem_cons_self)⟩

def TGok (K : PySem.W.Frag) (g : TG) (ix : List Nat) (f : PyData → EnvD → Option EnvD) : Prop :=
  ∀ (R : RR) (G0 G H : Hp) (env : EnvD) (σ : L2.St) (tmp : Tmp) (v : V) (d : PyData) (env' : EnvD) (Q : L2.St → Hp → Prop), SR K R G0 G H env σ tmp → NoSl tmp → Rp K G v d → f d env = some env' →
    (∀ σ' G' H', Same G G' → Wp ix σ σ' → SR K R G0 G' H' env' σ' tmp → Q σ' H') → g v σ H Q
def TGsok (K : PySem.W.Frag) (g : TGs) (ix : List Nat) (f : List PyData → EnvD → Option EnvD) : Prop :=
  ∀ (R : RR) (G0 G H : Hp) (env : EnvD) (σ : L2.St) (tmp : Tmp) (vs : List V) (ds : List PyData) (env' : EnvD) (Q : L2.St → Hp → Prop), SR K R G0 G H env σ tmp → NoSl tmp → RpAll K G vs ds → f ds env = some env' →
    (∀ σ' G' H', Same G G' → Wp ix σ σ' → SR K R G0 G' H' env' σ' tmp → Q σ' H') → g vs σ H Q
section
variable {K : PySem.W.Frag} {Γ : Tab}
theorem ok_tgName {i : Nat} : TGok K (gName i) [i] (fun d env => if i < env.length then some (env.set i (.va d)) else none) := by
  intro R G0 G H env σ tmp v d env' Q S hn r e q
  dsimp only at e
  split at e
  · rename_i hi
    cases e
    exact q _ G H (Same.refl _) Wp.set ((S.pushVa r).store hn hi fun j z => by cases z)
  · cases e
theorem ok_tgNil : TGsok K gNil [] (fun ds env => match ds with | [] => some env | _ => none) := by
  intro R G0 G H env σ tmp vs ds env' Q S hn r e q
  cases ds with
  | nil =>
    cases e
    cases r
    exact ⟨rfl, q σ G H (Same.refl _) Wp.refl S⟩
  | cons _ _ => cases e
theorem ok_tgCons {g : TG} {gs : TGs} {ix ixs : List Nat} {f : PyData → EnvD → Option EnvD} {fs : List PyData → EnvD → Option EnvD} (h : TGok K g ix f) (hs : TGsok K gs ixs fs) :
    TGsok K (gCons g gs) (ix ++ ixs) (fun ds env => match ds with | d :: ds => (f d env).bind fun e => fs ds e | [] => none) := by
  intro R G0 G H env σ tmp vs ds env' Q S hn r e q
  cases ds with
  | nil => cases e
  | cons d ds =>
    dsimp only at e
    rw [Option.bind_eq_some_iff] at e
    obtain ⟨e1, h1, h2⟩ := e
    cases r with
    | cons rv rr =>
      refine ⟨_, _, rfl, h _ _ _ _ _ _ _ _ _ _ _ S hn rv h1 fun σ1 G1 H1 g1 w1 S1 => ?_⟩
      exact hs _ _ _ _ _ _ _ _ _ _ _ S1 hn (rr.mono g1) h2 fun σ2 G2 H2 g2 w2 S2 => q σ2 G2 H2 (g1.trans g2) (w1.trans w2) S2
theorem ok_tgTup {gs : TGs} {ixs : List Nat} {n : Nat} {fs : List PyData → EnvD → Option EnvD} (hs : TGsok K gs ixs fs) (hn : ∀ ds e e', fs ds e = some e' → ds.length = n) :
    TGok K (gTup K n gs) ixs (fun d env => match d with | .tuple ds => fs ds env | _ => none) := by
  intro R G0 G H env σ tmp v d env' Q S hns r e q
  cases d with
  | tuple ds =>
    obtain ⟨a, xs, e1, ha, ra⟩ := r.tupI
    subst e1
    exact ⟨a, xs, rfl, SqT.of (S.gh _ _ ha), by rw [ra.len]; exact hn _ _ _ e, hs _ _ _ _ _ _ _ _ _ _ _ S hns ra e q⟩
  | _ => cases e
theorem isOwn_of {env : EnvD} {i : Nat} {R : RR} {G0 G H : Hp} {σ : L2.St} {tmp : Tmp} (S : SR K R G0 G H env σ tmp) (h : isOwn env i = true) : ∃ a, σ[i]? = some (some (.ref a)) := by
  unfold isOwn at h
  split at h
  · rename_i ds e
    obtain ⟨a, xs, e1, _⟩ := S.slot i _ e
    exact ⟨a, e1⟩
  · rename_i ds e
    obtain ⟨a, xs, e1, _⟩ := S.slot i _ e
    exact ⟨a, e1⟩
  · cases h
theorem ok_tgSub {i : Nat} {ti : TE} {fi : EnvD → Option (Opd × EnvD)} (hi : TEok K ti fi) : TGok K (gSub (tVar i) ti rSetL) [] (fun d env => if isOwn env i then (fi env).bind fun p => match p.1, p.2[i]? with
    | .va (.int k), some (.ow ds) => (L2.ixN ds.length k).bind fun j => some (p.2.set i (.ow (ds.set j d)))
    | .va (.int k), some (.io ds) => (L2.ixN ds.length k).bind fun j => some (p.2.set i (.io (ds.set j d)))
    | _, _ => none else none) := by
  intro R G0 G H env σ tmp v d env' Q S hns r e q
  dsimp only at e
  split at e
  · rename_i ho
    rw [Option.bind_eq_some_iff] at e
    obtain ⟨⟨o1, e1⟩, h1, e⟩ := e
    obtain ⟨a, ea⟩ := isOwn_of S ho
    refine ⟨.ref a, ea, hi _ _ _ _ _ _ _ _ _ _ S h1 fun w G1 H1 g1 S1 => ?_⟩
    have fin : ∀ (k : Int) (ds : List PyData) (c : List PyData → Cell) (j : Nat), (c = .ow ∨ c = .io) → o1 = .va (.int k) → e1[i]? = some (c ds) → ixN ds.length k = some j → env' = e1.set i (c (ds.set j d)) → rSetL (.ref a) w v H1 fun H3 => Q σ H3 := by
      intro k ds c j hc h2 h3 h4 h5
      subst h2
      subst h5
      have ew := Rp.intI (K := K) (G := G1) S1.top
      subst ew
      have hcell : ∃ b xs, σ[i]? = some (some (.ref b)) ∧ H1 b = some (.lst xs) ∧ RpAll K G1 xs ds := by
        have z := S1.slot i _ h3
        rcases hc with z1 | z1 <;> subst z1 <;> exact z
      obtain ⟨b, xs, eb, hb, rb⟩ := hcell
      rw [ea] at eb
      cases eb
      have hO : OwnS e1 σ i a := by
        rcases hc with z1 | z1 <;> subst z1
        · exact ⟨⟨ds, .inl h3⟩, ea⟩
        · exact ⟨⟨ds, .inr h3⟩, ea⟩
      refine ⟨a, xs, k, j, rfl, rfl, hb, by rw [rb.len]; exact h4, ?_⟩
      exact q σ G1 _ g1 Wp.refl (S1.pop.write hO (es := ds.set j d) (by rcases hc with z1 | z1 <;> subst z1 <;> first | exact .inl rfl | exact .inr ⟨rfl, _, h3⟩) (rb.set (r.mono g1) j) _ rfl)
    dsimp only at e
    split at e
    · rename_i k ds hk
      rw [Option.bind_eq_some_iff] at e
      obtain ⟨j, hj, e⟩ := e
      cases e
      exact fin _ _ .ow j (.inl rfl) rfl hk hj rfl
    · rename_i k ds hk
      rw [Option.bind_eq_some_iff] at e
      obtain ⟨j, hj, e⟩ := e
      cases e
      exact fin _ _ .io j (.inr rfl) rfl hk hj rfl
    · cases e
  · cases e
end

/-! ### what a loop walks -/
structure ItOk (K : PySem.W.Frag) (J : It) (ds : List PyData) (Gs : Hp) : Prop where
  go : ∀ i H, Same Gs H → i < ds.length → J.go i H
  stop : ∀ i H, Same Gs H → ds.length ≤ i → J.stop i H
  yld : ∀ i H x H' d, Same Gs H → ds[i]? = some d → J.yld i H x H' → (H' = H ∧ Rp K Gs x d) ∨ (∃ T xs es, x = .ref T ∧ H T = none ∧ H' = upd H T (.tup xs) ∧ d = .tuple es ∧ RpAll K Gs xs es)
def TIok (K : PySem.W.Frag) (w : TI) (f : EnvD → Option (List PyData × EnvD)) : Prop :=
  ∀ (R : RR) (G0 G H : Hp) (env : EnvD) (σ : L2.St) (tmp : Tmp) (ds : List PyData) (env' : EnvD) (Rk : It → Hp → Prop), SR K R G0 G H env σ tmp → f env = some (ds, env') →
    (∀ J G' H', Same G G' → SR K R G0 G' H' env' σ tmp → ItOk K J ds G' → Rk J H') → w σ H Rk
theorem pi_or {X : Cx} {tg it : Expr} {w1 w2 : TI} (h1 : PI X tg it w1) (h2 : PI X tg it w2) : PI X tg it (fun σ H R => w1 σ H R ∨ w2 σ H R) := by
  refine ⟨fun pins s σ H R I h => ?_⟩
  rcases h with h | h
  · exact h1.run pins s σ H R I h
  · exact h2.run pins s σ H R I h
section
variable {K : PySem.W.Frag}
theorem it_list {G : Hp} {a : Addr} {xs : List V} {ds : List PyData} (ha : G a = some (.lst xs)) (r : RpAll K G xs ds) : ItOk K (Itl K a) ds G where
  go := fun i H g hi => ⟨xs, xs[i]'(by rw [r.len]; exact hi), SqL.of (g _ _ ha), by simp⟩
  stop := fun i H g hi => ⟨xs, SqL.of (g _ _ ha), by rw [r.len]; exact hi⟩
  yld := fun i H x H' d g hd y => by
    obtain ⟨e, y⟩ := y
    obtain ⟨v, hv, rv⟩ := r.get hd
    have := y xs (SqL.of (g _ _ ha))
    rw [hv] at this
    cases this
    exact .inl ⟨e, rv⟩
theorem it_tup {G : Hp} {a : Addr} {xs : List V} {ds : List PyData} (ha : G a = some (.tup xs)) (r : RpAll K G xs ds) : ItOk K (Itt K a) ds G where
  go := fun i H g hi => ⟨xs, xs[i]'(by rw [r.len]; exact hi), SqT.of (g _ _ ha), by simp⟩
  stop := fun i H g hi => ⟨xs, SqT.of (g _ _ ha), by rw [r.len]; exact hi⟩
  yld := fun i H x H' d g hd y => by
    obtain ⟨e, y⟩ := y
    obtain ⟨v, hv, rv⟩ := r.get hd
    have := y xs (SqT.of (g _ _ ha))
    rw [hv] at this
    cases this
    exact .inl ⟨e, rv⟩
theorem it_range {lo : Int} {n : Nat} {G : Hp} : ItOk K (Itr lo n) (((List.range n).map fun (k : Nat) => lo + (k : Int)).map .int) G where
  go := fun i H g hi => by
    have z : i < n := by simpa using hi
    exact z
  stop := fun i H g hi => by
    have z : n ≤ i := by simpa using hi
    exact z
  yld := fun i H x H' d g hd y => by
    obtain ⟨e, y⟩ := y
    subst y
    rw [List.getElem?_map, List.getElem?_map] at hd
    cases z : (List.range n)[i]? with
    | none =>
      rw [z] at hd
      cases hd
    | some k =>
      rw [z] at hd
      have hk : k = i := by
        obtain ⟨h1, h2⟩ := List.getElem?_eq_some_iff.mp z
        simp at h2
        exact h2.symm
      subst hk
      cases hd
      exact .inl ⟨e, .int _⟩
theorem it_rangeD {lo : Int} {n : Nat} {G : Hp} : ItOk K (Itc lo (-1) n) (((List.range n).map fun (k : Nat) => lo - (k : Int)).map .int) G where
  go := fun i H g hi => by
    have z : i < n := by simpa using hi
    exact z
  stop := fun i H g hi => by
    have z : n ≤ i := by simpa using hi
    exact z
  yld := fun i H x H' d g hd y => by
    obtain ⟨e, y⟩ := y
    subst y
    rw [List.getElem?_map, List.getElem?_map] at hd
    cases z : (List.range n)[i]? with
    | none =>
      rw [z] at hd
      cases hd
    | some k =>
      rw [z] at hd
      have hk : k = i := by
        obtain ⟨h1, h2⟩ := List.getElem?_eq_some_iff.mp z
        simp at h2
        exact h2.symm
      subst hk
      cases hd
      refine .inl ⟨e, ?_⟩
      have : lo + (k : Int) * (-1) = lo - (k : Int) := by omega
      rw [this]
      exact .int _
theorem enumF_get : ∀ (ds : List PyData) (k i : Nat), (enumF k ds)[i]? = (ds[i]?).map fun d => .tuple [.int ((k + i : Nat) : Int), d]
  | [], k, i => by simp [enumF]
  | d :: ds, k, 0 => by simp [enumF]
  | d :: ds, k, i + 1 => by
    have := enumF_get ds (k + 1) i
    show (enumF (k + 1) ds)[i]? = _
    rw [this]
    have e : k + 1 + i = k + (i + 1) := by omega
    rw [e]
    rfl
theorem enumF_len : ∀ (ds : List PyData) (k : Nat), (enumF k ds).length = ds.length
  | [], _ => rfl
  | d :: ds, k => by
    show (enumF (k + 1) ds).length + 1 = _
    rw [enumF_len ds (k + 1)]
    rfl
theorem it_enum {G : Hp} {a : Addr} {xs : List V} {ds : List PyData} (ha : G a = some (.lst xs)) (r : RpAll K G xs ds) : ItOk K (Ite K a) (enumF 0 ds) G where
  go := fun i H g hi => by
    rw [enumF_len] at hi
    exact ⟨xs, xs[i]'(by rw [r.len]; exact hi), SqL.of (g _ _ ha), by simp⟩
  stop := fun i H g hi => by
    rw [enumF_len] at hi
    exact ⟨xs, SqL.of (g _ _ ha), by rw [r.len]; exact hi⟩
  yld := fun i H x H' d g hd y => by
    obtain ⟨T, u, e1, e2, e3, y⟩ := y
    rw [enumF_get] at hd
    cases z : ds[i]? with
    | none =>
      rw [z] at hd
      cases hd
    | some d' =>
      rw [z] at hd
      cases hd
      obtain ⟨v, hv, rv⟩ := r.get z
      have := y xs (SqL.of (g _ _ ha))
      rw [hv] at this
      cases this
      refine .inr ⟨T, _, _, e1, e2, e3, rfl, ?_⟩
      rw [Nat.zero_add]
      exact .cons (.int _) (.cons rv .nil)
theorem zipF_get : ∀ (xs ys : List PyData) (i : Nat), (zipF xs ys)[i]? = (xs[i]?).bind fun x => (ys[i]?).map fun y => .tuple [x, y]
  | [], ys, i => by simp [zipF]
  | x :: xs, [], i => by simp [zipF]
  | x :: xs, y :: ys, 0 => by simp [zipF]
  | x :: xs, y :: ys, i + 1 => by
    show (zipF xs ys)[i]? = _
    rw [zipF_get xs ys i]
    rfl
theorem zipF_len : ∀ (xs ys : List PyData), (zipF xs ys).length = min xs.length ys.length
  | [], ys => by simp [zipF]
  | x :: xs, [] => by simp [zipF]
  | x :: xs, y :: ys => by
    show (zipF xs ys).length + 1 = _
    rw [zipF_len xs ys, List.length_cons, List.length_cons]
    omega
theorem it_zip {G : Hp} {a b : Addr} {xs ys : List V} {ds es : List PyData} (ha : G a = some (.lst xs)) (hb : G b = some (.lst ys)) (r : RpAll K G xs ds) (r2 : RpAll K G ys es) : ItOk K (Itz K a b) (zipF ds es) G where
  go := fun i H g hi => by
    rw [zipF_len] at hi
    exact ⟨xs, ys, xs[i]'(by rw [r.len]; omega), ys[i]'(by rw [r2.len]; omega), SqL.of (g _ _ ha), SqL.of (g _ _ hb), by simp, by simp⟩
  stop := fun i H g hi => by
    rw [zipF_len] at hi
    exact ⟨xs, ys, SqL.of (g _ _ ha), SqL.of (g _ _ hb), by rw [r.len, r2.len]; omega⟩
  yld := fun i H x H' d g hd y => by
    obtain ⟨T, u, u2, e1, e2, e3, y, y2⟩ := y
    rw [zipF_get, Option.bind_eq_some_iff] at hd
    obtain ⟨d1, h1, hd⟩ := hd
    rw [Option.map_eq_some_iff] at hd
    obtain ⟨d2, h2, hd⟩ := hd
    subst hd
    obtain ⟨v, hv, rv⟩ := r.get h1
    obtain ⟨v2, hv2, rv2⟩ := r2.get h2
    have z := y xs (SqL.of (g _ _ ha))
    rw [hv] at z
    cases z
    have z := y2 ys (SqL.of (g _ _ hb))
    rw [hv2] at z
    cases z
    exact .inr ⟨T, _, _, e1, e2, e3, rfl, .cons rv (.cons rv2 .nil)⟩
theorem it_zipT {G : Hp} {a b : Addr} {xs ys : List V} {ds es : List PyData} (ha : G a = some (.tup xs)) (hb : G b = some (.tup ys)) (r : RpAll K G xs ds) (r2 : RpAll K G ys es) : ItOk K (RZ.ItzT K a b) (zipF ds es) G where
  go := fun i H g hi => by
    rw [zipF_len] at hi
    exact ⟨xs, ys, xs[i]'(by rw [r.len]; omega), ys[i]'(by rw [r2.len]; omega), SqT.of (g _ _ ha), SqT.of (g _ _ hb), by simp, by simp⟩
  stop := fun i H g hi => by
    rw [zipF_len] at hi
    exact ⟨xs, ys, SqT.of (g _ _ ha), SqT.of (g _ _ hb), by rw [r.len, r2.len]; omega⟩
  yld := fun i H x H' d g hd y => by
    obtain ⟨T, u, u2, e1, e2, e3, y, y2⟩ := y
    rw [zipF_get, Option.bind_eq_some_iff] at hd
    obtain ⟨d1, h1, hd⟩ := hd
    rw [Option.map_eq_some_iff] at hd
    obtain ⟨d2, h2, hd⟩ := hd
    subst hd
    obtain ⟨v, hv, rv⟩ := r.get h1
    obtain ⟨v2, hv2, rv2⟩ := r2.get h2
    have z := y xs (SqT.of (g _ _ ha))
    rw [hv] at z
    cases z
    have z := y2 ys (SqT.of (g _ _ hb))
    rw [hv2] at z
    cases z
    exact .inr ⟨T, _, _, e1, e2, e3, rfl, .cons rv (.cons rv2 .nil)⟩

/-- a value: a list or a tuple -/
theorem ok_srcEx {ta : TE} {fa : EnvD → Option (Opd × EnvD)} (ha : TEok K ta fa) : TIok K (fun σ H R => iList K ta σ H R ∨ iTup K ta σ H R) (fun env => (fa env).bind fun p => (Pd.frz p.2 p.1).bind fun q => (Pd.items q.1).bind fun ds => some (ds, q.2)) := by
  intro R G0 G H env σ tmp ds env' Rk S e q
  simp only [Option.bind_eq_some_iff] at e
  obtain ⟨⟨o1, e1⟩, h1, ⟨d, e2⟩, h2, ds', h3, e⟩ := e
  cases e
  cases d with
  | list es =>
    cases h3
    refine .inl (ha _ _ _ _ _ _ _ _ _ _ S h1 fun v G1 H1 g1 S1 => ?_)
    obtain ⟨G2, g2, S2, r⟩ := S1.frz h2
    obtain ⟨a, xs, ev, hx, rx⟩ := r.listI
    exact ⟨a, ev, ⟨xs, SqL.of (S2.gh _ _ hx)⟩, q _ G2 H1 (g1.trans g2) S2 (it_list hx rx)⟩
  | tuple es =>
    cases h3
    refine .inr (ha _ _ _ _ _ _ _ _ _ _ S h1 fun v G1 H1 g1 S1 => ?_)
    obtain ⟨G2, g2, S2, r⟩ := S1.frz h2
    obtain ⟨a, xs, ev, hx, rx⟩ := r.tupI
    exact ⟨a, ev, ⟨xs, SqT.of (S2.gh _ _ hx)⟩, q _ G2 H1 (g1.trans g2) S2 (it_tup hx rx)⟩
  | _ => cases h3
theorem ok_srcEnum {ta : TE} {fa : EnvD → Option (Opd × EnvD)} (ha : TEok K ta fa) : TIok K (iEnum K (tCons ta tNil)) (fun env => (fa env).bind fun p => (Pd.frz p.2 p.1).bind fun q => match q.1 with
    | .list ds => some (enumF 0 ds, q.2)
    | _ => none) := by
  intro R G0 G H env σ tmp ds env' Rk S e q
  simp only [Option.bind_eq_some_iff] at e
  obtain ⟨⟨o1, e1⟩, h1, ⟨d, e2⟩, h2, e⟩ := e
  dsimp only at e
  split at e
  · cases e
    refine ha _ _ _ _ _ _ _ _ _ _ S h1 fun v G1 H1 g1 S1 => ?_
    obtain ⟨G2, g2, S2, r⟩ := S1.frz h2
    obtain ⟨a, xs, ev, hx, rx⟩ := r.listI
    subst ev
    exact ⟨a, xs, rfl, SqL.of (S2.gh _ _ hx), q _ G2 H1 (g1.trans g2) S2 (it_enum hx rx)⟩
  · cases e
theorem ok_srcZip {ta tb : TE} {fa fb : EnvD → Option (Opd × EnvD)} (ha : TEok K ta fa) (hb : TEok K tb fb) : TIok K (RZ.iZipA K (tCons ta (tCons tb tNil))) (fun env => (fa env).bind fun p => (fb p.2).bind fun q => (Pd.frzs q.2 [p.1, q.1]).bind fun w => match w.1 with
    | [x, y] => (zipD x y).bind fun ds => some (ds, w.2)
    | _ => none) := by
  intro R G0 G H env σ tmp ds env' Rk S e q
  simp only [Option.bind_eq_some_iff] at e
  obtain ⟨⟨o1, e1⟩, h1, ⟨o2, e2⟩, h2, ⟨ws, e3⟩, h3, e⟩ := e
  refine ha _ _ _ _ _ _ _ _ _ _ S h1 fun v G1 H1 g1 S1 => ?_
  refine hb _ _ _ _ _ _ _ _ _ _ S1 h2 fun w G2 H2 g2 S2 => ?_
  have S3 : SR K R G0 G2 H2 e2 σ ([o1, o2].zip [v, w] ++ tmp) := S2.perm (List.Perm.swap _ _ _)
  obtain ⟨G3, g3, S4, r⟩ := frzs_ok _ _ _ _ _ S3 rfl h3
  have g := g1.trans (g2.trans g3)
  dsimp only at e
  split at e
  · rename_i x y
    rw [Option.bind_eq_some_iff] at e
    obtain ⟨zs, hz, e⟩ := e
    cases e
    cases r with
    | cons r1 r =>
      cases r with
      | cons r2 r =>
        unfold zipD at hz
        split at hz
        · cases hz
          obtain ⟨a, xs, ev, hx, rx⟩ := r1.listI
          obtain ⟨b, ys, ew, hy, ry⟩ := r2.listI
          subst ev
          subst ew
          exact ⟨a, b, xs, ys, rfl, .inl ⟨SqL.of (S4.gh _ _ hx), SqL.of (S4.gh _ _ hy), q _ G3 H2 g S4 (it_zip hx hy rx ry)⟩⟩
        · cases hz
          obtain ⟨a, xs, ev, hx, rx⟩ := r1.tupI
          obtain ⟨b, ys, ew, hy, ry⟩ := r2.tupI
          subst ev
          subst ew
          exact ⟨a, b, xs, ys, rfl, .inr ⟨SqT.of (S4.gh _ _ hx), SqT.of (S4.gh _ _ hy), q _ G3 H2 g S4 (it_zipT hx hy rx ry)⟩⟩
        · cases hz
  · cases e
def iRngD (n : Nat) (ta : TA) : TI := match n with
  | 1 => iRng1 ta
  | 2 => iRng2 ta
  | 3 => iRng3 ta
  | _ => fun _ _ _ => False
theorem ok_srcRng {n : Nat} {ta : TA} {fa : EnvD → Option (List Opd × EnvD)} (ha : TAok K ta fa) (hn : ∀ e p, fa e = some p → p.1.length = n) : TIok K (iRngD n ta) (fun env => (fa env).bind fun p => (ress p.2 p.1).bind fun ds => (ints3 ds).bind fun ns => some (ns.map .int, p.2)) := by
  intro R G0 G H env σ tmp ds env' Rk S e q
  simp only [Option.bind_eq_some_iff] at e
  obtain ⟨⟨os, e1⟩, h1, ds', h2, ns, h3, e⟩ := e
  cases e
  have hl := hn _ _ h1
  have len : ∀ {G1 H1 : Hp} {vs : List V}, RpAll K H1 vs ds' → os.length = vs.length → ds'.length = n := fun r l => by
    rw [← r.len, ← l]
    exact hl
  unfold ints3 at h3
  split at h3
  · rename_i b
    split at h3
    · rename_i hb
      cases h3
      have en : n = 1 := by
        rw [← hl]
        cases os with
        | nil => cases h2
        | cons o os =>
          unfold ress at h2
          simp only [Option.bind_eq_some_iff] at h2
          obtain ⟨_, _, _, h4, e⟩ := h2
          cases e
          cases os with
          | nil => rfl
          | cons o2 os =>
            unfold ress at h4
            simp only [Option.bind_eq_some_iff] at h4
            obtain ⟨_, _, _, _, e⟩ := h4
            cases e
      subst en
      refine ha _ _ _ _ _ _ _ _ _ _ S h1 fun vs G1 H1 l1 g1 S1 => ?_
      have r := ress_rp _ _ _ S1 l1 h2
      cases r with
      | cons r1 r =>
        cases r
        have ev := r1.intI
        subst ev
        refine ⟨b, rfl, by omega, by omega, q _ G1 H1 g1 (zip_drop S1) ?_⟩
        have := it_range (K := K) (lo := 0) (n := b.toNat) (G := G1)
        simpa using this
    · cases h3
  · rename_i a b
    split at h3
    · rename_i hb
      cases h3
      refine ?_
      have h2' := h2
      have en : n = 2 := by
        rw [← hl]
        rcases os with _ | ⟨o, _ | ⟨o2, _ | ⟨o3, os⟩⟩⟩ <;> (unfold ress at h2; simp only [Option.bind_eq_some_iff, Option.some.injEq, reduceCtorEq] at h2)
        · obtain ⟨_, _, _, h4, e⟩ := h2
          unfold ress at h4
          cases h4
          cases e
        · rfl
        · obtain ⟨_, _, _, h4, e⟩ := h2
          cases e
          unfold ress at h4
          simp only [Option.bind_eq_some_iff] at h4
          obtain ⟨_, _, _, h5, e⟩ := h4
          cases e
          unfold ress at h5
          simp only [Option.bind_eq_some_iff] at h5
          obtain ⟨_, _, _, _, e⟩ := h5
          cases e
      subst en
      refine ha _ _ _ _ _ _ _ _ _ _ S h1 fun vs G1 H1 l1 g1 S1 => ?_
      have r := ress_rp _ _ _ S1 l1 h2'
      cases r with
      | cons r1 r =>
        cases r with
        | cons r2 r =>
          cases r
          have ev := r1.intI
          subst ev
          have ev := r2.intI
          subst ev
          exact ⟨a, b, rfl, ⟨by omega, by omega, by omega, by omega⟩, q _ G1 H1 g1 (zip_drop S1) it_range⟩
    · cases h3
  · rename_i a b c
    split at h3
    · rename_i hb
      cases h3
      have h2' := h2
      have en : n = 3 := by
        rw [← hl]
        rcases os with _ | ⟨o, _ | ⟨o2, _ | ⟨o3, _ | ⟨o4, os⟩⟩⟩⟩ <;> (unfold ress at h2; simp only [Option.bind_eq_some_iff, Option.some.injEq, reduceCtorEq] at h2)
        · obtain ⟨_, _, _, h4, e⟩ := h2
          unfold ress at h4
          cases h4
          cases e
        · obtain ⟨_, _, _, h4, e⟩ := h2
          cases e
          unfold ress at h4
          simp only [Option.bind_eq_some_iff] at h4
          obtain ⟨_, _, _, h5, e⟩ := h4
          unfold ress at h5
          cases h5
          cases e
        · rfl
        · obtain ⟨_, _, _, h4, e⟩ := h2
          cases e
          unfold ress at h4
          simp only [Option.bind_eq_some_iff] at h4
          obtain ⟨_, _, _, h5, e⟩ := h4
          cases e
          unfold ress at h5
          simp only [Option.bind_eq_some_iff] at h5
          obtain ⟨_, _, _, h6, e⟩ := h5
          cases e
          unfold ress at h6
          simp only [Option.bind_eq_some_iff] at h6
          obtain ⟨_, _, _, _, e⟩ := h6
          cases e
      subst en
      refine ha _ _ _ _ _ _ _ _ _ _ S h1 fun vs G1 H1 l1 g1 S1 => ?_
      have r := ress_rp _ _ _ S1 l1 h2'
      cases r with
      | cons r1 r =>
        cases r with
        | cons r2 r =>
          cases r with
          | cons r3 r =>
            cases r
            have ev := r1.intI
            subst ev
            have ev := r2.intI
            subst ev
            have ev := r3.intI
            subst ev
            obtain ⟨rfl, hb⟩ := hb
            exact ⟨a, b, -1, _, rfl, RgC.neg (by omega) (by omega) (by omega) (by omega), q _ G1 H1 g1 (zip_drop S1) it_rangeD⟩
    · cases h3
  · cases h3
end
end Pd

/-! comprehensions; methods that change a list of one's own -/
namespace Pd
open PySem PySem.Spec PyProof.Rows L2

def isSl : Opd → Bool
  | .sl _ => true
  | _ => false
def unsl (t : Tmp) : Tmp := t.filter fun p => !isSl p.1
theorem unsl_no (t : Tmp) : NoSl (unsl t) := by
  intro p hp i e
  have := (List.mem_filter.mp hp).2
  rw [e] at this
  cases this
theorem ownT_unsl (t : Tmp) : ownT (unsl t) = ownT t := by
  induction t with
  | nil => rfl
  | cons p t ih =>
    obtain ⟨o, v⟩ := p
    cases o with
    | va d =>
      show ownT ((.va d, v) :: unsl t) = _
      rw [ownT_va, ownT_va, ih]
    | ow ds =>
      show ownT ((.ow ds, v) :: unsl t) = _
      rw [ownT_eq, ownT_eq] at *
      rw [List.filterMap_cons, List.filterMap_cons, ih]
    | sl i =>
      show ownT (unsl t) = _
      rw [ownT_sl, ih]

theorem wipe_comm {σ : L2.St} {i : Nat} {x : Option V} : ∀ {own : List Nat}, i ∉ own → wipe (σ.set i x) own = (wipe σ own).set i x
  | [], _ => rfl
  | k :: own, h => by
    have h1 : k ≠ i := fun e => h (by rw [e]; exact List.mem_cons_self)
    show (wipe (σ.set i x) own).set k none = ((wipe σ own).set k none).set i x
    rw [wipe_comm (fun z => h (List.mem_cons_of_mem _ z)), List.set_comm _ _ (Ne.symm h1)]
theorem wipe_get : ∀ {own : List Nat} {σ : L2.St} {i : Nat}, (wipe σ own)[i]? = if i ∈ own then (σ[i]?).map (fun _ => none) else σ[i]?
  | [], σ, i => by simp [wipe]
  | k :: own, σ, i => by
    show ((wipe σ own).set k none)[i]? = _
    by_cases hk : k = i
    · subst hk
      rw [if_pos List.mem_cons_self]
      by_cases hl : k < σ.length
      · rw [List.getElem?_set_self (by rw [wipe_length]; exact hl), List.getElem?_eq_getElem hl]
        rfl
      · rw [List.getElem?_eq_none (by rw [List.length_set, wipe_length]; omega), List.getElem?_eq_none (by omega)]
        rfl
    · rw [List.getElem?_set_ne hk, wipe_get]
      by_cases hi : i ∈ own
      · rw [if_pos hi, if_pos (List.mem_cons_of_mem _ hi)]
      · rw [if_neg hi, if_neg (fun z => (List.mem_cons.mp z).elim (fun e => hk e.symm) hi)]
theorem wipe_idem {σ : L2.St} {own : List Nat} : wipe (wipe σ own) own = wipe σ own := by
  apply List.ext_getElem?
  intro i
  rw [wipe_get, wipe_get]
  by_cases hi : i ∈ own
  · rw [if_pos hi, if_pos hi]
    cases σ[i]? <;> rfl
  · rw [if_neg hi, if_neg hi]
theorem wipe1_len {own : List Nat} {env : EnvD} : (wipe1 env own).length = env.length := by
  induction own with
  | nil => rfl
  | cons i own ih =>
    show ((wipe1 env own).set i .no).length = _
    rw [List.length_set, ih]

section
variable {K : PySem.W.Frag} {R : RR} {G0 G G' H H' : Hp} {env : EnvD} {σ : L2.St} {tmp : Tmp} {p : Addr} {v : V} {d : PyData} {ds : List PyData} {xs : List V}

theorem SR.unsl (S : SR K R G0 G H env σ tmp) : SR K R G0 G H env σ (Pd.unsl tmp) := S.sub List.filter_sublist
theorem SR.resl {t' : Tmp} (S : SR K R G0 G H env σ (t' ++ Pd.unsl tmp)) (h : ∀ q ∈ tmp, ∀ i, q.1 = .sl i → σ[i]? = some (some q.2)) : SR K R G0 G H env σ (t' ++ tmp) := by
  have e : ownT (t' ++ Pd.unsl tmp) = ownT (t' ++ tmp) := by
    rw [ownT_eq, ownT_eq, List.filterMap_append, List.filterMap_append, ← ownT_eq, ← ownT_eq (Pd.unsl tmp), ← ownT_eq tmp, ownT_unsl]
  refine ⟨S.gh, S.rh, S.g0, S.gr, S.len, S.slot, S.free, S.apart, fun q hq => ?_, by rw [← e]; exact S.freeT, by rw [← e]; exact S.nd, by rw [← e]; exact S.cross, S.iod⟩
  rcases List.mem_append.mp hq with hq | hq
  · exact S.tm q (List.mem_append_left _ hq)
  · by_cases hs : isSl q.1 = true
    · obtain ⟨o, w⟩ := q
      cases o with
      | sl i => exact h _ hq i rfl
      | _ => cases hs
    · refine S.tm q (List.mem_append_right _ (List.mem_filter.mpr ⟨hq, ?_⟩))
      cases z : isSl q.1 with
      | true => exact absurd z hs
      | false => rfl
theorem SR.wipe1 {i : Nat} (S : SR K R G0 G H env σ tmp) (hn : NoSl tmp) : SR K R G0 G H (env.set i .no) (σ.set i none) tmp := by
  have w : ∀ j b, OwnS (env.set i .no) (σ.set i none) j b → OwnS env σ j b := fun j b ⟨⟨es, q⟩, q2⟩ => by
    by_cases hj : j = i
    · subst hj
      rcases q with q | q <;> rcases getElem?_set_cases q with ⟨_, z, _⟩ | ⟨hj, z⟩
      · cases z
      · exact absurd rfl hj
      · cases z
      · exact absurd rfl hj
    · rw [List.getElem?_set_ne (Ne.symm hj)] at q q2
      exact ⟨⟨es, q⟩, q2⟩
  refine ⟨S.gh, S.rh, S.g0, S.gr, by rw [List.length_set, List.length_set]; exact S.len, fun j c q => ?_, fun j b q => S.free j b (w j b q), fun j k b q1 q2 => S.apart j k b (w j b q1) (w k b q2), fun q hq => ?_, S.freeT, S.nd, fun j b q => S.cross j b (w j b q), iod_set S.iod fun _ z => nomatch z⟩
  · rcases getElem?_set_cases q with ⟨_, z, _⟩ | ⟨hj, z⟩
    · subst z
      trivial
    · rw [List.getElem?_set_ne (Ne.symm hj)]
      exact S.slot j c z
  · have h1 := S.tm q hq
    obtain ⟨oq, vq⟩ := q
    cases oq with
    | va d => exact h1
    | ow es => exact h1
    | sl k => exact absurd rfl (hn _ hq k)
theorem SR.wipe {own : List Nat} (S : SR K R G0 G H env σ tmp) (hn : NoSl tmp) : SR K R G0 G H (Pd.wipe1 env own) (L2.wipe σ own) tmp := by
  induction own with
  | nil => exact S
  | cons i own ih => exact ih.wipe1 hn
theorem back_get {old : EnvD} : ∀ {own : List Nat} {env env' : EnvD}, back old own env = some env' → env'.length = env.length ∧ ∀ j, (j ∉ own → env'[j]? = env[j]?) ∧ (j ∈ own → env'[j]? = old[j]? ∨ env'[j]? = none) ∧ (j ∈ own → old[j]? = some .no ∨ ∃ d, old[j]? = some (.va d))
  | [], env, env', e => by
    cases e
    exact ⟨rfl, fun j => ⟨fun _ => rfl, fun z => absurd z List.not_mem_nil, fun z => absurd z List.not_mem_nil⟩⟩
  | i :: own, env, env', e => by
    unfold back at e
    rw [Option.bind_eq_some_iff] at e
    obtain ⟨e1, h1, e⟩ := e
    obtain ⟨l1, q1⟩ := back_get h1
    have main : ∀ c, old[i]? = some c → (c = .no ∨ ∃ d, c = .va d) → env' = e1.set i c → env'.length = env.length ∧ ∀ j, (j ∉ i :: own → env'[j]? = env[j]?) ∧ (j ∈ i :: own → env'[j]? = old[j]? ∨ env'[j]? = none) ∧ (j ∈ i :: own → old[j]? = some .no ∨ ∃ d, old[j]? = some (.va d)) := by
      intro c hc hk he
      subst he
      refine ⟨by rw [List.length_set]; exact l1, fun j => ?_⟩
      by_cases hj : j = i
      · subst hj
        refine ⟨fun z => absurd List.mem_cons_self z, fun _ => ?_, fun _ => ?_⟩
        · by_cases hl : j < e1.length
          · rw [List.getElem?_set_self hl, hc]
            exact .inl rfl
          · exact .inr (List.getElem?_eq_none (by rw [List.length_set]; omega))
        · rw [hc]
          rcases hk with z | ⟨d, z⟩
          · exact .inl (by rw [z])
          · exact .inr ⟨d, by rw [z]⟩
      · rw [List.getElem?_set_ne (Ne.symm hj)]
        exact ⟨fun z => (q1 j).1 fun y => z (List.mem_cons_of_mem _ y), fun z => (q1 j).2.1 ((List.mem_cons.mp z).resolve_left hj), fun z => (q1 j).2.2 ((List.mem_cons.mp z).resolve_left hj)⟩
    split at e
    · rename_i d hd
      cases e
      exact main _ hd (.inr ⟨d, rfl⟩) rfl
    · rename_i hd
      cases e
      exact main _ hd (.inl rfl) rfl
    · cases e
theorem SR.unwipe {G1 H1 : Hp} {env1 env3 : EnvD} {own : List Nat} {t1 : Tmp} (S : SR K R G0 G H env (L2.wipe σ own) tmp) (S1 : SR K R G0 G1 H1 env1 σ t1) (g : Same G1 G) (hn : NoSl tmp) (hb : back env1 own env = some env3) : SR K R G0 G H env3 σ tmp := by
  obtain ⟨hl, hq⟩ := back_get hb
  have out : ∀ j, j ∉ own → env3[j]? = env[j]? ∧ (L2.wipe σ own)[j]? = σ[j]? := fun j hj => ⟨(hq j).1 hj, by rw [wipe_get, if_neg hj]⟩
  have w : ∀ j b, OwnS env3 σ j b → OwnS env (L2.wipe σ own) j b := fun j b ⟨⟨es, q⟩, q2⟩ => by
    by_cases hj : j ∈ own
    · exfalso
      rcases (hq j).2.1 hj with z | z
      · rw [z] at q
        rcases (hq j).2.2 hj with y | ⟨d, y⟩ <;> (rw [y] at q; rcases q with q | q <;> cases q)
      · rw [z] at q
        rcases q with q | q <;> cases q
    · obtain ⟨a1, a2⟩ := out j hj
      rw [a1] at q
      exact ⟨⟨es, q⟩, by rw [a2]; exact q2⟩
  refine ⟨S.gh, S.rh, S.g0, S.gr, by rw [hl, S.len, wipe_length], fun j c q => ?_, fun j b q => S.free j b (w j b q), fun j k b q1 q2 => S.apart j k b (w j b q1) (w k b q2), fun q hq => ?_, S.freeT, S.nd, fun j b q => S.cross j b (w j b q), fun j ds' q => ?_⟩
  · by_cases hj : j ∈ own
    · rcases (hq j).2.1 hj with z | z
      · rw [z] at q
        rcases (hq j).2.2 hj with y | ⟨d, y⟩
        · rw [y] at q
          cases q
          trivial
        · rw [y] at q
          cases q
          obtain ⟨u, e1, r⟩ := S1.slot j _ y
          exact ⟨u, e1, r.mono g⟩
      · rw [z] at q
        cases q
    · obtain ⟨a1, a2⟩ := out j hj
      rw [a1] at q
      have := S.slot j c q
      rw [a2] at this
      exact this
  · have h1 := S.tm q hq
    obtain ⟨oq, vq⟩ := q
    cases oq with
    | va d => exact h1
    | ow es => exact h1
    | sl k => exact absurd rfl (hn _ hq k)
  · by_cases hj : j ∈ own
    · rcases (hq j).2.1 hj with z | z
      · rw [z] at q
        rcases (hq j).2.2 hj with y | ⟨d, y⟩ <;> (rw [y] at q; cases q)
      · rw [z] at q
        cases q
    · obtain ⟨a1, a2⟩ := out j hj
      rw [a1] at q
      obtain ⟨a, e1, e2⟩ := S.iod j ds' q
      exact ⟨a, e1, by rw [← a2]; exact e2⟩
/-- what is on its way is written -/
theorem SR.writeT {D : Addr} {ys : List V} {es : List PyData} (S : SR K R G0 G H env σ ((.ow ds, .ref D) :: tmp)) (r : RpAll K G ys es) : SR K R G0 G (upd H D (.lst ys)) env σ ((.ow es, .ref D) :: tmp) := by
  have f := S.freeT D (by rw [ownT_ow]; exact List.mem_cons_self)
  have nd := S.nd
  rw [ownT_ow] at nd
  have nd := List.nodup_cons.mp nd
  have T := S.pop
  have off : ∀ b o, b ≠ D → H b = some o → upd H D (.lst ys) b = some o := fun b o n z => by
    rw [upd_ne n]
    exact z
  have eo : ∀ es' : List PyData, ownT ((Opd.ow es', V.ref D) :: tmp) = D :: ownT tmp := fun _ => rfl
  refine ⟨fun b o z => off b o (fun q => ?_) (S.gh b o z), fun b o z => off b o (fun q => ?_) (S.rh b o z), S.g0, S.gr, S.len, fun j k q => ?_, S.free, S.apart, fun q hq => ?_, by rw [eo]; have z := S.freeT; rw [eo] at z; exact z, by rw [eo]; have z := S.nd; rw [eo] at z; exact z, by rw [eo]; have z := S.cross; rw [eo] at z; exact z, S.iod⟩
  · rw [q, f.1] at z
    cases z
  · rw [q, f.2] at z
    cases z
  · exact (S.slot j k q).keep (Same.refl _) fun b us hb e1 e2 => off b _ (fun w => by
      obtain ⟨es', hb⟩ := hb
      refine S.cross j D ⟨⟨es', ?_⟩, by rw [← w]; exact e1⟩ (by rw [ownT_ow]; exact List.mem_cons_self)
      rcases hb with hb | hb
      · exact .inl (hb ▸ q)
      · exact .inr (hb ▸ q)) e2
  · rcases List.mem_cons.mp hq with z | z
    · subst z
      exact ⟨D, ys, rfl, upd_same, r⟩
    · refine (T.tm q z).keep (Same.refl _) fun b us hb e1 e2 => off b _ (fun w => ?_) e2
      obtain ⟨es', hb⟩ := hb
      obtain ⟨o, w'⟩ := q
      have hb : o = .ow es' := hb
      have e1 : w' = .ref b := e1
      subst hb
      subst e1
      subst w
      refine nd.1 ?_
      have mem_own : ∀ {t : Tmp}, (Opd.ow es', V.ref b) ∈ t → b ∈ ownT t := by
        intro t
        induction t with
        | nil => intro z; cases z
        | cons q t ih =>
          intro z
          rcases List.mem_cons.mp z with z | z
          · subst z
            exact List.mem_cons_self
          · exact ownT_sub b (ih z)
      exact mem_own z

theorem Same.up {H1 H2 : Hp} (a : Same G H1) (b : Same H1 H2) : Same G H2 := a.trans b
/-- an item comes -/
theorem SR.yld {J : It} {Gs : Hp} {i : Nat} {x : V} {d : PyData} (S : SR K R G0 G H env σ tmp) (g : Same Gs G) (ok : ItOk K J ds Gs) (hd : ds[i]? = some d) (y : J.yld i H x H') : ∃ G', Same G G' ∧ SR K R G0 G' H' env σ tmp ∧ Rp K G' x d := by
  rcases ok.yld i H x H' d (g.trans S.gh) hd y with ⟨e, r⟩ | ⟨T, xs, es, e1, e2, e3, e4, r⟩
  · subst e
    exact ⟨G, Same.refl _, S, r.mono g⟩
  · subst e1
    subst e3
    subst e4
    obtain ⟨S', g'⟩ := S.newT e2 (r.mono g)
    exact ⟨_, g', S'.pop, S'.top⟩

theorem ok_lc {wi : TI} {g : TG} {tt : TT} {te : TE} {ix own : List Nat} {fs : EnvD → Option (List PyData × EnvD)} {ft : PyData → EnvD → Option EnvD} {fc : EnvD → Option (Bool × EnvD)} {fe : EnvD → Option (Opd × EnvD)}
    (hs : TIok K wi fs) (hg : TGok K g ix ft) (hix : ∀ i ∈ ix, i ∈ own) (ht : TTok K tt fc) (he : TEok K te fe) :
    TEok K (tLc wi g tt te own) (fun env => (fs env).bind fun p =>
      if p.1.length < 16777216 then
        (compL ft fc (fun e => (fe e).bind fun r => Pd.frz r.2 r.1) own p.1 (Pd.wipe1 p.2 own)).bind fun q => (back p.2 own q.2).bind fun e => some (.ow q.1, e)
      else none) := by
  intro R G0 G H env σ tmp o env' Q S e q
  rw [Option.bind_eq_some_iff] at e
  obtain ⟨⟨items, env1⟩, h1, e⟩ := e
  dsimp only at e
  split at e
  case isFalse => cases e
  rename_i hlen
  simp only [Option.bind_eq_some_iff] at e
  obtain ⟨⟨out, env2⟩, h2, env3, h3, e⟩ := e
  cases e
  refine hs _ _ _ _ _ _ _ _ _ _ S h1 fun J G1 H1 g1 S1 ok => fun D hD => ?_
  have hsl : ∀ q ∈ tmp, ∀ i, q.1 = .sl i → σ[i]? = some (some q.2) := fun q hq i e => by
    have := S1.tm q hq
    rw [e] at this
    exact this
  have nS : NoSl (unsl tmp) := unsl_no tmp
  have nS1 : ∀ {es : List PyData}, NoSl ((.ow es, .ref D) :: unsl tmp) := fun p hp i e => by
    rcases List.mem_cons.mp hp with z | z
    · rw [z] at e
      cases e
    · exact nS p z i e
  refine ⟨fun i m H => m = items.length - i ∧ i ≤ items.length ∧ ∃ G' envi done out', Same G1 G' ∧ SR K R G0 G' H envi (L2.wipe σ own) ((.ow done, .ref D) :: unsl tmp) ∧ compL ft fc (fun e => (fe e).bind fun r => Pd.frz r.2 r.1) own (items.drop i) envi = some (out', env2) ∧ done ++ out' = out ∧ done.length ≤ i,
    ⟨items.length, rfl, Nat.zero_le _, G1, _, [], out, Same.refl _, (S1.unsl.newL hD .nil).wipe nS1, by rw [List.drop_zero]; exact h2, rfl, Nat.le_refl _⟩, ?_⟩
  rintro i m H2 ⟨rfl, hi, G2, envi, done, out', g2, S2, hc, ho, hd⟩
  by_cases hlt : i < items.length
  · refine .inr ⟨ok.go i H2 (g2.trans S2.gh) hlt, fun H => ∃ G' envi done out', Same G1 G' ∧ SR K R G0 G' H envi (L2.wipe σ own) ((.ow done, .ref D) :: unsl tmp) ∧ compL ft fc (fun e => (fe e).bind fun r => Pd.frz r.2 r.1) own (items.drop (i + 1)) envi = some (out', env2) ∧ done ++ out' = out ∧ done.length ≤ i + 1,
      fun H' z => ⟨items.length - (i + 1), by omega, rfl, hlt, z⟩, fun x H' y => ?_⟩
    have hdr : items.drop i = items[i] :: items.drop (i + 1) := (List.drop_eq_getElem_cons hlt)
    rw [hdr] at hc
    unfold compL at hc
    simp only [Option.bind_eq_some_iff] at hc
    obtain ⟨ea, ha, ⟨b, eb⟩, hb, hc⟩ := hc
    obtain ⟨G3, g3, S3, r3⟩ := S2.yld g2 ok (d := items[i]) (List.getElem?_eq_getElem hlt) y
    refine hg _ _ _ _ _ _ _ _ _ _ _ S3 nS1 r3 ha fun σ4 G4 H4 g4 w4 S4 => ⟨by rw [w4.2 own hix, wipe_idem], ?_⟩
    have w4' : L2.wipe σ4 own = L2.wipe σ own := by rw [w4.2 own hix, wipe_idem]
    refine ht _ _ _ _ _ _ _ _ _ _ S4 hb fun G5 H5 g5 S5 => ?_
    have g15 : Same G1 G5 := g2.trans (g3.trans (g4.trans g5))
    cases b with
    | false =>
      dsimp only at hc
      refine ⟨G5, _, done, out', g15, ?_, hc, ho, by omega⟩
      have := S5.wipe (own := own) nS1
      rw [w4'] at this
      exact this
    | true =>
      simp only [Option.bind_eq_some_iff] at hc
      obtain ⟨⟨d6, e6⟩, ⟨⟨o6, e7⟩, he7, hf⟩, ⟨z1, z2⟩, hz, hc⟩ := hc
      cases hc
      refine he _ _ _ _ _ _ _ _ _ _ S5 he7 fun yv G7 H7 g7 S7 => ?_
      obtain ⟨G8, g8, S8, r8⟩ := S7.frz hf
      have S9 := S8
      obtain ⟨D', acc, eD, hacc, racc⟩ := S9.top
      cases eD
      refine ⟨acc, hacc, by
        have : acc.length = done.length := racc.len
        have z : sizeLine = 16777216 := rfl
        omega, ?_⟩
      refine ⟨G8, _, done ++ [d6], z1, g15.trans (g7.trans g8), ?_, hz, by rw [List.append_assoc]; exact ho, by rw [List.length_append]; show _ + 1 ≤ _; omega⟩
      have S10 := (S9.writeT (racc.app (.cons r8 .nil))).wipe (own := own) nS1
      rw [w4'] at S10
      exact S10
  · have hi' : items.drop i = [] := List.drop_eq_nil_of_le (by omega)
    rw [hi'] at hc
    cases hc
    refine .inl ⟨ok.stop i H2 (g2.trans S2.gh) (by omega), ?_⟩
    rw [List.append_nil] at ho
    subst ho
    have S3 := S2.unwipe S1 g2 nS1 h3
    exact q _ _ _ (g1.trans g2) (S3.resl (t' := [(.ow done, .ref D)]) hsl)
end
end Pd

/-! methods of lists; a range made a list or a tuple -/
namespace Pd
open PySem PySem.Spec PyProof.Rows L2

section
variable {K : PySem.W.Frag} {R : RR} {G0 G H : Hp} {env env' : EnvD} {σ : L2.St} {tmp : Tmp}

/-- a method that changes the list at a -/
def MutOk (K : PySem.W.Frag) (r : V → List V → Hp → VK → Prop) (f : List PyData → List PyData → Option (List PyData × PyData)) : Prop :=
  ∀ (G H : Hp) (a : Addr) (xs vs : List V) (ds es ds' : List PyData) (d : PyData) (Q : VK), Same G H → H a = some (.lst xs) → RpAll K G xs ds → RpAll K G vs es → f ds es = some (ds', d) →
    (∀ v ys, RpAll K G ys ds' → Rp K G v d → Q v (upd H a (.lst ys))) → r (.ref a) vs H Q
theorem RpAll.dropLast : ∀ {vs : List V} {ds : List PyData}, RpAll K G vs ds → RpAll K G vs.dropLast ds.dropLast
  | _, _, .nil => .nil
  | _, _, .cons _ .nil => .nil
  | _, _, .cons r (.cons r2 rr) => .cons r (RpAll.dropLast (.cons r2 rr))
theorem mut_append : MutOk K rAppend (mutD .append) := by
  intro G H a xs vs ds es ds' d Q g ha r rv h q
  cases rv with
  | nil => cases h
  | cons r1 rr =>
    cases rr with
    | cons _ _ => cases h
    | nil =>
      unfold mutD at h
      dsimp only at h
      split at h
      · rename_i hl
        cases h
        refine ⟨a, xs, _, rfl, rfl, ha, ?_, q _ _ (r.app (.cons r1 .nil)) .non⟩
        have z : sizeLine = 16777216 := rfl
        have := r.len
        omega
      · cases h
theorem mut_extend : MutOk K rExtend (mutD .extend) := by
  intro G H a xs vs ds es ds' d Q g ha r rv h q
  cases rv with
  | nil => cases h
  | cons r1 rr =>
    cases rr with
    | cons _ _ =>
      cases r1 <;> cases h
    | nil =>
      cases r1 with
      | lst e1 r1 =>
        unfold mutD at h
        dsimp only at h
        split at h
        · rename_i hl
          cases h
          refine ⟨a, _, xs, _, rfl, rfl, ha, g _ _ e1, ?_, q _ _ (r.app r1) .non⟩
          have z : sizeLine = 16777216 := rfl
          have := r.len
          have := r1.len
          omega
        · cases h
      | _ => cases h
theorem mut_pop : MutOk K (fun x xs H Q => rPop x xs H Q ∨ rPopAt x xs H Q) (mutD .pop) := by
  intro G H a xs vs ds es ds' d Q g ha r rv h q
  cases rv with
  | nil =>
    have h : (ds.getLast?).map (fun x => (ds.dropLast, x)) = some (ds', d) := h
    rw [Option.map_eq_some_iff] at h
    obtain ⟨x, h1, e⟩ := h
    cases e
    rw [List.getLast?_eq_getElem?] at h1
    obtain ⟨v, hv, rv⟩ := r.get h1
    rw [← r.len] at hv
    exact .inl ⟨a, xs, v, rfl, rfl, ha, hv, q _ _ r.dropLast rv⟩
  | cons r1 rr =>
    cases rr with
    | cons _ _ => cases r1 <;> cases h
    | nil =>
      cases r1 with
      | int i =>
        unfold mutD at h
        dsimp only at h
        split at h
        · rename_i hb
          simp only [Option.bind_eq_some_iff, Option.map_eq_some_iff] at h
          obtain ⟨j, hj, x, hx, e⟩ := h
          cases e
          obtain ⟨v, hv, rv⟩ := r.get hx
          rw [← r.len] at hj
          exact .inr ⟨a, xs, i, j, v, rfl, rfl, ha, by omega, by omega, (ixN_seq hj).1, hv, q _ _ (r.erase j) rv⟩
        · cases h
      | _ => cases h
theorem tyV_list {a : Addr} {xs : List V} (h : H a = some (.lst xs)) : tyV K "list" (.ref a) H := .inl ⟨rfl, _, SqL.of h⟩
/-- the list of the name i is changed -/
theorem mut_fin {i : Nat} {a : Addr} {vs : List V} {es : List PyData} {r : V → List V → Hp → VK → Prop} {m : Mut} {f : List PyData → List PyData → Option (List PyData × PyData)} {o : Opd} {Q : VK} (hr : MutOk K r f) (S : SR K R G0 G H env σ tmp) (ea : σ[i]? = some (some (.ref a))) (rv : RpAll K G vs es)
    (h : (match env[i]? with
      | some (.ow ds) => (f ds es).bind fun r => some (.va r.2, env.set i (.ow r.1))
      | some (.io ds) => (f ds es).bind fun r => some (.va r.2, env.set i (.io r.1))
      | _ => none) = some (o, env')) (q : ∀ v H', SR K R G0 G H' env' σ ((o, v) :: tmp) → Q v H') : r (.ref a) vs H Q := by
  have fin : ∀ (ds : List PyData) (c : List PyData → Cell), (c = .ow ∨ c = .io) → env[i]? = some (c ds) → ∀ ds' d, f ds es = some (ds', d) → o = .va d → env' = env.set i (c ds') → r (.ref a) vs H Q := by
    intro ds c hc h3 ds' d h4 h5 h6
    subst h5
    subst h6
    have hcell : ∃ b xs, σ[i]? = some (some (.ref b)) ∧ H b = some (.lst xs) ∧ RpAll K G xs ds := by
      have z := S.slot i _ h3
      rcases hc with z1 | z1 <;> subst z1 <;> exact z
    obtain ⟨b, xs, eb, hb, rb⟩ := hcell
    rw [ea] at eb
    cases eb
    have hO : OwnS env σ i a := by
      rcases hc with z1 | z1 <;> subst z1
      · exact ⟨⟨ds, .inl h3⟩, ea⟩
      · exact ⟨⟨ds, .inr h3⟩, ea⟩
    exact hr G H a xs vs ds es ds' d Q S.gh hb rb rv h4 fun v ys ry rd => q v _ ((S.write hO (es := ds') (by rcases hc with z1 | z1 <;> subst z1 <;> first | exact .inl rfl | exact .inr ⟨rfl, _, h3⟩) ry _ rfl).pushVa rd)
  split at h
  · rename_i ds hk
    rw [Option.bind_eq_some_iff] at h
    obtain ⟨⟨ds', d⟩, h1, e⟩ := h
    cases e
    exact fin ds .ow (.inl rfl) hk ds' d h1 rfl rfl
  · rename_i ds hk
    rw [Option.bind_eq_some_iff] at h
    obtain ⟨⟨ds', d⟩, h1, e⟩ := h
    cases e
    exact fin ds .io (.inr rfl) hk ds' d h1 rfl rfl
  · cases h
theorem ok_mut {i : Nat} {r : V → List V → Hp → VK → Prop} {f : List PyData → List PyData → Option (List PyData × PyData)} {ta : TA} {fa : EnvD → Option (List Opd × EnvD)} (hr : MutOk K r f) (ha : TAok K ta fa) :
    TEok K (tBM K "list" r (tVar i) ta) (fun env => if isOwn env i then (fa env).bind fun p => (Pd.frzs p.2 p.1).bind fun q => match q.2[i]? with
      | some (.ow ds) => (f ds q.1).bind fun r => some (.va r.2, q.2.set i (.ow r.1))
      | some (.io ds) => (f ds q.1).bind fun r => some (.va r.2, q.2.set i (.io r.1))
      | _ => none else none) := by
  intro R G0 G H env σ tmp o env' Q S e q
  dsimp only at e
  split at e
  · rename_i ho
    simp only [Option.bind_eq_some_iff] at e
    obtain ⟨⟨os, e1⟩, h1, ⟨es, e2⟩, h2, e⟩ := e
    obtain ⟨a, ea⟩ := isOwn_of S ho
    have hH : ∃ xs, H a = some (.lst xs) := by
      unfold isOwn at ho
      split at ho
      · rename_i ds z
        obtain ⟨b, xs, eb, hb, _⟩ := S.slot i _ z
        rw [ea] at eb
        cases eb
        exact ⟨xs, hb⟩
      · rename_i ds z
        obtain ⟨b, xs, eb, hb, _⟩ := S.slot i _ z
        rw [ea] at eb
        cases eb
        exact ⟨xs, hb⟩
      · cases ho
    obtain ⟨xs, hH⟩ := hH
    refine ⟨.ref a, ea, tyV_list hH, ha _ _ _ _ _ _ _ _ _ _ S h1 fun vs G1 H1 l1 g1 S1 => ?_⟩
    obtain ⟨G2, g2, S2, r2⟩ := frzs_ok _ _ _ _ _ S1 l1 h2
    exact mut_fin (m := .append) hr S2 ea r2 e fun v H' S3 => q v G2 H' (g1.trans g2) S3
  · cases e
theorem ok_mut0 {i : Nat} {r : V → List V → Hp → VK → Prop} {f : List PyData → List PyData → Option (List PyData × PyData)} {Γ : Tab} (hr : MutOk K r f) :
    TEok K (tBM0 K "list" r (tVar i)) (fun env => if isOwn env i then (evEs Γ .nil env).bind fun p => (Pd.frzs p.2 p.1).bind fun q => match q.2[i]? with
      | some (.ow ds) => (f ds q.1).bind fun r => some (.va r.2, q.2.set i (.ow r.1))
      | some (.io ds) => (f ds q.1).bind fun r => some (.va r.2, q.2.set i (.io r.1))
      | _ => none else none) := by
  intro R G0 G H env σ tmp o env' Q S e q
  have z := ok_mut (K := K) (i := i) (r := r) (f := f) (ta := tNil) (fa := evEs Γ .nil) hr ok_nil R G0 G H env σ tmp o env' Q S e q
  exact z
/-- xs.count(i) -/
theorem ok_lcount {ta tb : TE} {fa fb : EnvD → Option (Opd × EnvD)} (ha : TEok K ta fa) (hb : TEok K tb fb) :
    TEok K (tBM K "list" (rCntI K) ta (tCons tb tNil)) (fun env => (fa env).bind fun p => (res p.2 p.1).bind fun x0 => (fb p.2).bind fun q => (res q.2 p.1).bind fun x => (res q.2 q.1).bind fun y => if sameK x0 x then (mthD .count x y).bind fun r => some (.va r, q.2) else none) := by
  intro R G0 G H env σ tmp o env' Q S e q
  simp only [Option.bind_eq_some_iff] at e
  obtain ⟨⟨o1, e1⟩, h1, d0, r0, ⟨o2, e2⟩, h2, d1, r1, d2, r2, e⟩ := e
  split at e
  · rename_i hk
    rw [Option.bind_eq_some_iff] at e
    obtain ⟨z, hz, e⟩ := e
    cases e
    unfold mthD at hz
    split at hz
    · rename_i ds i _
      rw [Option.map_eq_some_iff] at hz
      obtain ⟨ns, hns, e⟩ := hz
      cases e
      have hds := allInts_eq hns
      subst hds
      have hd0 : ∃ es, d0 = .list es := by
        cases d0 <;> first | exact ⟨_, rfl⟩ | cases hk
      obtain ⟨es, hd0⟩ := hd0
      subst hd0
      refine ha _ _ _ _ _ _ _ _ _ _ S h1 fun v1 G1 H1 g1 S1 => ?_
      obtain ⟨a1, xs1, ev, ha1, _⟩ := S1.resL S1.top r0
      subst ev
      refine ⟨tyV_list ha1, hb _ _ _ _ _ _ _ _ _ _ S1 h2 fun v2 G2 H2 g2 S2 => ?_⟩
      obtain ⟨p, xs, ev, hp, rp⟩ := S2.resL S2.under r1
      cases ev
      have ey := (S2.res S2.top r2).intI
      subst ey
      rw [rp.ints] at hp
      exact ⟨a1, ns, i, rfl, rfl, SqL.of hp, q _ G2 H2 (g1.trans g2) (S2.pop.pop.pushVa (.int _))⟩
    · cases hz
  · cases e
end
end Pd

/-! a range made a list or a tuple; enumerate of a tuple -/
namespace Pd
open PySem PySem.Spec PyProof.Rows L2

section
variable {K : PySem.W.Frag} {Γ : Tab}
def tRgL (tp : Bool) (te : L2.St → Hp → (Int → Int → Hp → Prop) → Prop) : TE := match tp with
  | false => tLstRg te
  | true => tTupRg te
theorem pe_rgL {X : Cx} {e : Expr} {te : L2.St → Hp → (Int → Int → Hp → Prop) → Prop} {p pos : Pos} (tp : Bool) (hc : X.calm = true) (hg : Gl X (if tp then ("tuple" : Str) else ("list" : Str))) (hm : X.mg (if tp then ("tuple" : Str) else ("list" : Str)) = none) (he : PRg X e te) (na : starEach [e] X.env = (false, eval e X.env) :: starEach [] X.env) :
    PE X (.Call (.Name (if tp then ("tuple" : Str) else ("list" : Str)) p) [e] [] pos) (tRgL tp te) := by
  cases tp with
  | false => exact pe_listRg hc hg hm he na
  | true => exact pe_tupRg hc hg hm he na
def RgFin (tp : Bool) (a b : Int) (H : Hp) (Q : VK) : Prop := match tp with
  | false => RgOk a b ∧ ∀ q, H q = none → Q (.ref q) (upd H q (.lst (rgV a b)))
  | true => RgOk a b ∧ ∀ q, H q = none → Q (.ref q) (upd H q (.tup (rgV a b)))
theorem rgL_fin {R : RR} {G0 G H : Hp} {env : EnvD} {σ : L2.St} {tmp : Tmp} {tp : Bool} {a b : Int} {o : Opd} {env' : EnvD} {ns : List Int} {Q : VK} (S : SR K R G0 G H env σ tmp) (hb : -1000000000000 ≤ a ∧ a ≤ 1000000000000 ∧ -1000000000000 ≤ b ∧ b ≤ 1000000000000) (hn : ns = (List.range (b - a).toNat).map fun (k : Nat) => a + (k : Int))
    (h : (if ns.length ≤ 16777216 then (match tp with
      | false => some (Opd.ow (ns.map .int), env)
      | true => some (Opd.va (.tuple (ns.map .int)), env)) else none) = some (o, env')) (q : ∀ v G' H', Same G G' → SR K R G0 G' H' env' σ ((o, v) :: tmp) → Q v H') : RgFin tp a b H Q := by
  split at h
  · rename_i hl
    have hok : RgOk a b := by
      have : (b - a).toNat ≤ 16777216 := by
        rw [hn] at hl
        simpa using hl
      exact ⟨by omega, by omega, by omega, by omega, by omega⟩
    have hv : rgV a b = ns.map V.int := by
      rw [hn, List.map_map]
      rfl
    have r : ∀ G, RpAll K G (rgV a b) (ns.map .int) := fun G => by
      rw [hv]
      exact .ofInts ns
    cases tp with
    | false =>
      cases h
      exact ⟨hok, fun p hp => q _ G _ (Same.refl _) (S.newL hp (r G))⟩
    | true =>
      cases h
      refine ⟨hok, fun p hp => ?_⟩
      obtain ⟨S', g'⟩ := S.newT hp (r G)
      exact q _ _ _ g' S'
  · cases h
theorem ok_rg1 {tp : Bool} {a : Ex} {ta : TE} (ha : TEok K ta (evE Γ a)) : TEok K (tRgL tp (tRg1 ta)) (evE Γ (.rngL tp (.cons a .nil))) := by
  intro R G0 G H env σ tmp o env' Q S e q
  have main : ta σ H fun x H1 => ∃ n, x = .int n ∧ RgFin tp 0 n H1 Q := by
    rw [evE] at e
    simp only [evEs, Option.bind_eq_some_iff] at e
    obtain ⟨⟨os, e1⟩, ⟨⟨o1, e2⟩, h1, ⟨os2, e3⟩, hnil, he⟩, ds, h2, ns, h3, e⟩ := e
    cases hnil
    cases he
    refine ha _ _ _ _ _ _ _ _ _ _ S h1 fun v G1 H1 g1 S1 => ?_
    unfold ress at h2
    simp only [Option.bind_eq_some_iff] at h2
    obtain ⟨d, hd, ds', hds, he⟩ := h2
    cases hds
    cases he
    unfold ints3 at h3
    split at h3
    · rename_i b hb
      cases hb
      have ev := (S1.res S1.top hd).intI
      subst ev
      split at h3
      · rename_i hb
        cases h3
        refine ⟨b, rfl, rgL_fin S1.pop ⟨by omega, by omega, hb.1, hb.2⟩ (by rw [Int.sub_zero]; exact List.map_congr_left fun k _ => (Int.zero_add _).symm) e fun v G' H' g S' => q v G' H' (g1.trans g) S'⟩
      · cases h3
    · rename_i hb
      cases hb
    · rename_i hb
      cases hb
    · cases h3
  cases tp <;> exact main
theorem ok_rg2 {tp : Bool} {a b : Ex} {ta tb : TE} (ha : TEok K ta (evE Γ a)) (hb : TEok K tb (evE Γ b)) : TEok K (tRgL tp (tRg2 ta tb)) (evE Γ (.rngL tp (.cons a (.cons b .nil)))) := by
  intro R G0 G H env σ tmp o env' Q S e q
  have main : ta σ H fun x H1 => tb σ H1 fun y H2 => ∃ i j, x = .int i ∧ y = .int j ∧ RgFin tp i j H2 Q := by
    rw [evE] at e
    simp only [evEs, Option.bind_eq_some_iff] at e
    obtain ⟨⟨os, e1⟩, ⟨⟨o1, e2⟩, h1, ⟨os2, e3⟩, ⟨⟨o2, e4⟩, h4, ⟨os3, e5⟩, hnil, he2⟩, he⟩, ds, h2, ns, h3, e⟩ := e
    cases hnil
    cases he2
    cases he
    refine ha _ _ _ _ _ _ _ _ _ _ S h1 fun v G1 H1 g1 S1 => ?_
    refine hb _ _ _ _ _ _ _ _ _ _ S1 h4 fun w G2 H2 g2 S2 => ?_
    unfold ress at h2
    simp only [Option.bind_eq_some_iff] at h2
    obtain ⟨d, hd, ds', hds, he⟩ := h2
    cases he
    unfold ress at hds
    simp only [Option.bind_eq_some_iff] at hds
    obtain ⟨d', hd', ds'', hds, he⟩ := hds
    cases he
    cases hds
    unfold ints3 at h3
    split at h3
    · rename_i hb
      cases hb
    · rename_i i j hb
      cases hb
      have ev := (S2.res S2.under hd).intI
      subst ev
      have ew := (S2.res S2.top hd').intI
      subst ew
      split at h3
      · rename_i hb
        cases h3
        exact ⟨i, j, rfl, rfl, rgL_fin S2.pop.pop ⟨hb.1, hb.2.1, hb.2.2.1, hb.2.2.2⟩ rfl e fun v G' H' g S' => q v G' H' (g1.trans (g2.trans g)) S'⟩
      · cases h3
    · rename_i hb
      cases hb
    · cases h3
  cases tp <;> exact main
end

/-! ### enumerate of a tuple -/
section
variable {prog : Program} {w : World} {A : Around} {E : Value → Shared → Prop} {s : Shared}
set_option maxHeartbeats 1000000 in
theorem newEnum1 {v : Value} {ob : Obj} {Hh : Heap → Prop} (B : Begins v ob Hh) :
    Meets (Builtin.«enumerate.__new__» ⟨[.type "enumerate", v], []⟩) (fun _ R st => Hh st.heap ∧
      R (.ok (.ret (.ref (st.heap.push ob).objs.size))) { st with heap := (st.heap.push ob).push { cls := .type "enumerate", data := .fields #[.none, .bool false, .ref st.heap.objs.size, rawInt 0, .none, .none] } }) :=
  .of_wp fun pr ww Aa R st hh => by
    obtain ⟨hp, gg, dd, tk, os⟩ := st
    obtain ⟨b1, hh⟩ := hh
    have hsub := sub_enumerate
    have go : ∀ {A' : Around} {E : Value → Shared → Prop} {Q : Value → Shared → Prop}, Q (.ref hp.objs.size) ⟨hp.push ob, gg, dd, tk, os⟩ → wpAny (model pr ww) A' (pyIter v) Q E ⟨hp, gg, dd, tk, os⟩ :=
      fun z => B.iter pr ww _ _ ⟨hp, gg, dd, tk, os⟩ _ b1 z
    wp_walk using go
    refine wpAny_stack_any fun sk => wpAny_pure ?_
    split
    · rename_i cc _ _ _ _ _
      cases (cc == Value.type "enumerate")
      · wp_walk using go
        exact ⟨_, rfl, hh⟩
      · wp_walk using go
        exact ⟨_, rfl, hh⟩
    · wp_walk using go
      exact ⟨_, rfl, hh⟩
theorem callEnum1 {v : Value} {ob : Obj} {Hh : Heap → Prop} {Q : Value → Shared → Prop} (B : Begins v ob Hh) (b1 : Hh s.heap)
    (hq : ∀ h', IsEnum h' (s.heap.objs.size + 1) s.heap.objs.size 0 .none → h'.get? s.heap.objs.size = some ob → h'.objs.size = s.heap.objs.size + 2 →
      (∀ b u, s.heap.get? b = some u → h'.get? b = some u) → Q (.ref (s.heap.objs.size + 1)) { s with heap := h' }) :
    wpAny (model prog w) A (call (.type "enumerate") [v]) Q E s := by
  refine callType_new F.called_enumerate (by decide) (F.typeCall_enumerate_1 _) (F.newCall_enumerate_1 _) (fun obj => F.args_object_init_2 obj _) F.entry_enumerate_new (newEnum1 B) ⟨b1, ?_⟩
  have z1 : (s.heap.push ob).objs.size = s.heap.objs.size + 1 := Heap.size_push ..
  show _ ∧ _
  rw [z1]
  have en : IsEnum ((s.heap.push ob).push { cls := .type "enumerate", data := .fields #[.none, .bool false, .ref s.heap.objs.size, rawInt 0, .none, .none] }) (s.heap.objs.size + 1) s.heap.objs.size 0 .none := by
    have y := Heap.get?_push_size (s.heap.push ob) (o := { cls := .type "enumerate", data := .fields #[.none, .bool false, .ref s.heap.objs.size, rawInt 0, .none, .none] }) rfl
    rw [z1] at y
    exact y
  exact ⟨⟨_, en, rfl⟩, hq _ en (Heap.get?_push_of_some _ (Heap.get?_push_size _ B.free)) (by rw [Heap.size_push, z1]) fun b u x => Heap.get?_push_of_some _ (Heap.get?_push_of_some _ x)⟩
end
/-- the tuple at a, each item in a new pair -/
def IteT (K : PySem.W.Frag) (a : Addr) : It :=
  ⟨fun i H => ∃ (xs : List V) (x : V), SqT K H a xs ∧ xs[i]? = some x, fun i H v H' => ∃ T x, v = .ref T ∧ H T = none ∧ H' = upd H T (.tup [.int (i : Nat), x]) ∧ ∀ xs, SqT K H a xs → xs[i]? = some x, fun i H => ∃ xs : List V, SqT K H a xs ∧ xs.length ≤ i⟩
theorem turn_enumT {P : Program} {w : World} {K : PySem.W.Frag} {elts : List Expr} {kk : Nat} {tpos : Pos} (a en it : Addr) (hai : a ≠ it) :
    Turn P w K (.Tuple elts kk tpos) (IteT K a) [en, it] en (fun i h => (∃ old, IsEnum h en it ((i : Nat) : Int) old) ∧ h.IsTupleIter it a i ∧ en ≠ it ∧ a ≠ en) where
  mem := by simp
  obj := fun i h st b hb => by
    obtain ⟨⟨old, he⟩, ⟨o, ho, hc, hd⟩, _⟩ := st
    rcases (by simpa using hb : b = en ∨ b = it) with z | z
    · rw [z]
      exact ⟨_, he, fun v q => nomatch q⟩
    · rw [z]
      exact ⟨o, ho, fun v q => by
        rw [hd] at q
        cases q⟩
  keep := fun i h h' st k => by
    obtain ⟨⟨old, he⟩, hi, hn1, hn2⟩ := st
    exact ⟨⟨old, k en (by simp) _ he⟩, hi.at fun o q => k it (by simp) o q, hn1, hn2⟩
  item := by
    intro X hP hw hK hc i pins s σ H E I hf st hg
    subst hP hw hK
    obtain ⟨⟨old, he⟩, hit, hne, han⟩ := st
    obtain ⟨xs, x, hq, hx⟩ := hg
    obtain ⟨its, rv, p, hz⟩ := I.tuple hq
    obtain ⟨u, hu, ru⟩ := rv.get hx
    have hel : en < s.heap.objs.size := Heap.lt_size he
    have hil : it < s.heap.objs.size := by
      obtain ⟨_, q, _⟩ := hit
      exact Heap.lt_size q
    have hlt : i < its.toArray.size := by
      obtain ⟨z, _⟩ := List.getElem?_eq_some_iff.mp hu
      simpa using z
    have afp : en ∉ [it, a] := fun z => by
      rcases (by simpa using z : en = it ∨ en = a) with z | z
      · exact hne z
      · exact han z.symm
    refine wpAny_pyNext_enum_itemD (Draws.tuple (prog := X.prog) (w := X.w) (A := X.A.in1) (I.ok.hd hc) it a hai its.toArray) he ⟨hit, show s.heap.IsTuple a its.toArray from p⟩ hlt hne afp fun y h' tk hy ho st' hT hsz hk => ?_
    have ey : y = u := by
      have hy : its.toArray[i]? = some y := hy
      rw [show its.toArray[i]? = some u by simpa using hu] at hy
      exact (Option.some.inj hy).symm
    subst ey
    refine ⟨_, rfl, wpAny_letOwnedTupleGo_enum (s := { s with heap := h', toks := tk + 1 }) ho fun h2 he' sb => ?_⟩
    have hT2 : h2.get? s.heap.objs.size = some { cls := .type "tuple", data := .seq #[.int i tk, y] } := (sb.2 _ (Nat.ne_of_gt hel)).trans hT
    have new : ObjOk X.prog X.w (upd H s.heap.objs.size (.tup [.int (i : Nat), x])) h2 s.heap.objs.size (.tup [.int (i : Nat), x]) :=
      ⟨show 2 ≤ sizeLine by decide, [.int i tk, y], .cons ⟨_, rfl⟩ (.cons ru .nil), ⟨_, hT2, rfl, _, rfl⟩⟩
    have I1 : Inv X pins σ (upd H s.heap.objs.size (.tup [.int (i : Nat), x])) { s with heap := h2, toks := tk + 1 } :=
      I.turnedNew (ch := [en, it]) (fun b ob hb q => (sb.2 b (fun z => hb (by simp [z]))).trans (hk b ob (fun z => hb (by simp [z])) (fun z => hb (by simp [z])) q)) hf (Nat.le_refl _) new
    refine ⟨.ref s.heap.objs.size, _, I1, rfl, ⟨_, x, rfl, I.hok.fresh (Nat.le_refl _), rfl, fun ys hy => by
      rw [I.tuple_inj hy hq]
      exact hx⟩, ⟨⟨y, ?_⟩, st'.1.at fun o q => (sb.2 it (Ne.symm hne)).trans q, hne, han⟩, fun b hb => ?_⟩
    · have e1 : ((i + 1 : Nat) : Int) = (i : Int) + 1 := by omega
      rw [e1]
      exact he'
    · have hb' : b < s.heap.objs.size := by
        rcases (by simpa using hb : b = en ∨ b = it) with z | z
        · rw [z]
          exact hel
        · rw [z]
          exact hil
      rw [upd_ne (Nat.ne_of_lt hb')]
      exact (hf b hb).1
  done := by
    intro X hP hw hK hc i pins s σ H E I hf st hg
    subst hP hw hK
    obtain ⟨⟨old, he⟩, hit, hne, han⟩ := st
    obtain ⟨xs, hq, hx⟩ := hg
    obtain ⟨its, rv, p, hz⟩ := I.tuple hq
    obtain ⟨f0, f1, f2, f3, f4, f5⟩ := hf it (by simp)
    have hl := rv.length
    unfold pyNext
    refine wpAny_bind (wpAny_attempt (wpAny_callSpecial?_slot (name := Str.ofString "__next__") (show s.TypeIs (.ref en) "enumerate" from ⟨_, he, rfl⟩) F.slot_enumerate_next
      (wpAny_call_entry F.slot_enumerate_next ⟨_, he, rfl⟩ F.entry_enumerate_next ?_ (F.args_enumerate_next_1 _))))
    show wpAny _ _ (field (.ref en) 2 >>= _) _ _ _
    refine wpAny_bind (wpAny_field he rfl (x := .ref it) rfl ?_)
    refine wpAny_bind (wpAny_nextOf_tuple_end (I.ok.hd hc) hit (show s.heap.IsTuple a its.toArray from p) (by simp; omega) fun h' ex he' hx' => ?_)
    obtain ⟨o, ho, hcl⟩ := hx'
    refine wpAny_bind (wpAny_isInstance (T := "StopIteration") (b := true) ⟨o, ho, hcl⟩ isSubtype_stop ?_)
    exact wpAny_pure ⟨rfl, I.turned (t' := s.toks) (fun b o hb q => he' b o hb q) f0 f1 f3 f4 f5⟩
  self := fun A i s Q E st h => by
    obtain ⟨⟨_, he⟩, _⟩ := st
    exact wpAny_pyIter_enum he h
/-- enumerate of a list or of a tuple -/
def iEnumA (K : PySem.W.Frag) (ta : TA) : TI := fun σ H R => ta σ H fun vs H1 => ∃ a xs, vs = [.ref a] ∧ ((SqL K H1 a xs ∧ R (Ite K a) H1) ∨ (SqT K H1 a xs ∧ R (IteT K a) H1))
theorem pi_enumA {X : Cx} {e : Expr} {ta : TA} {p pos tpos : Pos} {elts : List Expr} {kk : Nat} (hg : Gl X "enumerate") (hm : X.mg "enumerate" = none) (ha : PA X [e] ta) (hs : starEach [e] X.env = [(false, eval e X.env)]) :
    PI X (.Tuple elts kk tpos) (.Call (.Name "enumerate" p) [e] [] pos) (iEnumA X.K ta) := by
  refine ⟨fun pins s σ H R I h => ?_⟩
  refine Call_ (ld_blt I hg hm boot_enumerate (PyProof.Rows.callWith_type1 (thn (ha.run pos pins s σ H _ I h) fun us s1 ⟨vs, H1, I1, r1, q1⟩ => ?_) hs rfl))
  obtain ⟨a, xs, ex, q1⟩ := q1
  subst ex
  cases r1 with
  | cons r rr =>
    cases rr
    cases r
    have fresh2 : ∀ b, b ∈ [s1.heap.objs.size + 1, s1.heap.objs.size] → FpOk X pins H1 b := fun b hb => by
      have hle : s1.heap.objs.size ≤ b := by
        rcases (by simpa using hb : b = s1.heap.objs.size + 1 ∨ b = s1.heap.objs.size) with z | z
        · rw [z]
          exact Nat.le_add_right _ _
        · rw [z]
          exact Nat.le_refl _
      exact I1.fpOk hle (I1.hok.fresh hle)
    rcases q1 with ⟨hq, q⟩ | ⟨hq, q⟩
    · obtain ⟨its, rv, p', hz⟩ := I1.list hq
      refine call_enumerate_list p'.isList fun h' he hit hsz hk => wpAny_pyIter_enum he ?_
      have I2 : Inv X pins σ H1 { s1 with heap := h' } := I1.kept (t' := s1.toks) hk
      exact ⟨s1.heap.objs.size + 1, [s1.heap.objs.size + 1, s1.heap.objs.size], _, _, H1, rfl, I2, turn_enum a (s1.heap.objs.size + 1) s1.heap.objs.size, ⟨⟨.none, he⟩, hit, Nat.succ_ne_self _⟩, fresh2, q⟩
    · obtain ⟨its, rv, p', hz⟩ := I1.tuple hq
      have hal : a < s1.heap.objs.size := by
        obtain ⟨o, ho, _⟩ := id p'
        exact Heap.lt_size ho
      refine callEnum1 (begins_tuple a its.toArray) (show s1.heap.IsTuple a its.toArray from p') fun h' he hit hsz hk => wpAny_pyIter_enum he ?_
      have I2 : Inv X pins σ H1 { s1 with heap := h' } := I1.kept (t' := s1.toks) hk
      exact ⟨s1.heap.objs.size + 1, [s1.heap.objs.size + 1, s1.heap.objs.size], _, _, H1, rfl, I2, turn_enumT a (s1.heap.objs.size + 1) s1.heap.objs.size (Nat.ne_of_lt hal), ⟨⟨.none, he⟩, ⟨_, hit, rfl, rfl⟩, Nat.succ_ne_self _, Nat.ne_of_lt (Nat.lt_succ_of_lt hal)⟩, fresh2, q⟩
section
variable {K : PySem.W.Frag}
theorem it_enumT {G : Hp} {a : Addr} {xs : List V} {ds : List PyData} (ha : G a = some (.tup xs)) (r : RpAll K G xs ds) : ItOk K (IteT K a) (enumF 0 ds) G where
  go := fun i H g hi => by
    rw [enumF_len] at hi
    exact ⟨xs, xs[i]'(by rw [r.len]; exact hi), SqT.of (g _ _ ha), by simp⟩
  stop := fun i H g hi => by
    rw [enumF_len] at hi
    exact ⟨xs, SqT.of (g _ _ ha), by rw [r.len]; exact hi⟩
  yld := fun i H x H' d g hd y => by
    obtain ⟨T, u, e1, e2, e3, y⟩ := y
    rw [enumF_get] at hd
    cases z : ds[i]? with
    | none =>
      rw [z] at hd
      cases hd
    | some d' =>
      rw [z] at hd
      cases hd
      obtain ⟨v, hv, rv⟩ := r.get z
      have := y xs (SqT.of (g _ _ ha))
      rw [hv] at this
      cases this
      refine .inr ⟨T, _, _, e1, e2, e3, rfl, ?_⟩
      rw [Nat.zero_add]
      exact .cons (.int _) (.cons rv .nil)
theorem ok_srcEnumA {ta : TE} {fa : EnvD → Option (Opd × EnvD)} (ha : TEok K ta fa) : TIok K (iEnumA K (tCons ta tNil)) (fun env => (fa env).bind fun p => (Pd.frz p.2 p.1).bind fun q => (Pd.items q.1).bind fun ds => some (enumF 0 ds, q.2)) := by
  intro R G0 G H env σ tmp ds env' Rk S e q
  simp only [Option.bind_eq_some_iff] at e
  obtain ⟨⟨o1, e1⟩, h1, ⟨d, e2⟩, h2, es, h3, e⟩ := e
  cases e
  refine ha _ _ _ _ _ _ _ _ _ _ S h1 fun v G1 H1 g1 S1 => ?_
  obtain ⟨G2, g2, S2, r⟩ := S1.frz h2
  cases d with
  | list es' =>
    cases h3
    obtain ⟨a, xs, ev, hx, rx⟩ := r.listI
    subst ev
    exact ⟨a, xs, rfl, .inl ⟨SqL.of (S2.gh _ _ hx), q _ G2 H1 (g1.trans g2) S2 (it_enum hx rx)⟩⟩
  | tuple es' =>
    cases h3
    obtain ⟨a, xs, ev, hx, rx⟩ := r.tupI
    subst ev
    exact ⟨a, xs, rfl, .inr ⟨SqT.of (S2.gh _ _ hx), q _ G2 H1 (g1.trans g2) S2 (it_enumT hx rx)⟩⟩
  | _ => cases h3
end
end Pd

/-! the reading is right: expressions, one by one -/
namespace Pd
open PySem PySem.Spec PyProof.Rows L2

/-- built-in names that the module does not bind -/
def bNames : List Str := ["len", "sum", "max", "min", "abs", "int", "list", "tuple", "all", "any", "sorted", "divmod", "repr", "isinstance", "bool", "str", "dict", "range", "enumerate", "zip"]
/-- what the module's names are -/
structure GO (P : Program) (w : World) (K : PySem.W.Frag) (mg : Str → Option Value) (base : Heap) (c : CC) (Γ : Tab) (lv : Nat) : Prop where
  bi : ∀ x ∈ bNames, mg x = none
  fns : ∀ x k g, fnAt x c.fns 0 = some (k, g) → ∃ sig f fd, Γ k = some sig ∧ mg x = some (.ref f) ∧ PySem.W.keepIn K (.ref f) = true ∧ FnD P w K mg base lv f fd g.ps (spD K sig) ∧ ∀ m ks pm, shapeAt m ks g.shapes = some pm → BindsD K fd g.ps m ks pm
  glb : ∀ x d, c.glb.lookup x = some d → ∃ v u, mg x = some u ∧ RelV v u ∧ ∀ G, Rp K G v d
/-- a frame that is read by c -/
structure XO (P : Program) (w : World) (K : PySem.W.Frag) (mg : Str → Option Value) (base : Heap) (Γ : Tab) (lv : Nat) (c : CC) (X : Cx) : Prop where
  hP : X.prog = P
  hw : X.w = w
  hK : X.K = K
  hm : X.mg = mg
  hb : X.base = base
  N : X.N = c.N
  nd : c.N.Nodup
  sc : X.env.scope = c.sc
  calm : X.calm = true
  guards : X.A.guards = some []
  room : Room lv X.A
  xe : X.xe = fun _ _ => False
  cell : ∀ y, c.sc.names.lookup y = some .cell → c.ck.contains y = true → X.fn y = true
  go : GO P w K mg base c Γ lv

section
variable {P : Program} {w : World} {K : PySem.W.Frag} {mg : Str → Option Value} {base : Heap} {Γ : Tab} {lv : Nat} {c : CC} {X : Cx}
theorem XO.bi (O : XO P w K mg base Γ lv c X) {x : Str} (h : x ∈ bNames) : X.mg x = none := by
  rw [O.hm]
  exact O.go.bi x h
theorem XO.units (O : XO P w K mg base Γ lv c X) : X.A.units + 150 < cLine := by
  have := O.room
  obtain ⟨_, h⟩ := this
  omega
theorem okNm_ne {x : Str} (h : okNm x = true) : (x == ("__debug__" : Str)) = false ∧ (x == ("__classdict__" : Str)) = false := by
  unfold okNm at h
  simpa using h
theorem XO.gl (O : XO P w K mg base Γ lv c X) {x : Str} (h : isGl c x = true) : Gl X x := by
  unfold isGl at h
  rw [Bool.and_eq_true] at h
  show X.env.scope.names.lookup x = _
  rw [O.sc]
  have h := h.1
  split at h
  · assumption
  · cases h
theorem isGl_nm {x : Str} (h : isGl c x = true) : (x == ("__debug__" : Str)) = false := by
  unfold isGl at h
  rw [Bool.and_eq_true] at h
  exact (okNm_ne h.2).1
theorem slot_at {x : Str} {i : Nat} (h : slot c x = some i) : c.N[i]? = some x ∧ Vis c.sc x ∧ okNm x = true := by
  have ix : ∀ {i}, c.N.idxOf? x = some i → c.N[i]? = some x := fun {i} e => by
    unfold List.idxOf? at e
    rw [List.findIdx?_eq_some_iff_getElem] at e
    obtain ⟨h1, h2, _⟩ := e
    rw [List.getElem?_eq_getElem h1]
    exact congrArg some (by simpa using h2)
  unfold slot at h
  split at h
  · rename_i e
    split at h
    · rename_i ok
      exact ⟨ix h, .inl e, ok⟩
    · cases h
  · rename_i e
    split at h
    · rename_i ok
      exact ⟨ix h, .inr (.inl e), ok⟩
    · cases h
  · rename_i e
    split at h
    · rename_i ok
      exact ⟨ix h, .inr (.inr e), ok⟩
    · cases h
  · cases h
theorem slotS_at {x : Str} {i : Nat} (h : slotS c x = some i) : c.N[i]? = some x ∧ (c.sc.names.lookup x = some .local ∨ (c.sc.names.lookup x = some .cell ∧ c.ck.contains x = true)) := by
  have ix : ∀ {i}, c.N.idxOf? x = some i → c.N[i]? = some x := fun {i} e => by
    unfold List.idxOf? at e
    rw [List.findIdx?_eq_some_iff_getElem] at e
    obtain ⟨h1, h2, _⟩ := e
    rw [List.getElem?_eq_getElem h1]
    exact congrArg some (by simpa using h2)
  unfold slotS at h
  split at h
  · rename_i e
    exact ⟨ix h, .inl e⟩
  · rename_i e
    split at h
    · rename_i ok
      exact ⟨ix h, .inr ⟨e, ok⟩⟩
    · cases h
  · cases h
theorem XO.var (O : XO P w K mg base Γ lv c X) {x : Str} {i : Nat} {pos : Pos} (h : slot c x = some i) : PE X (.Name x pos) (tVar i) := by
  obtain ⟨h1, h2, h3⟩ := slot_at h
  exact pe_var (by rw [O.N]; exact h1) (by rw [O.sc]; exact h2) (okNm_ne h3).1 (okNm_ne h3).2
theorem XO.tg (O : XO P w K mg base Γ lv c X) {x : Str} {i : Nat} {pos : Pos} (h : slotS c x = some i) : PG X (.Name x pos) (gName i) := by
  obtain ⟨h1, h2⟩ := slotS_at h
  refine pg_name (by rw [O.N]; exact O.nd) (by rw [O.N]; exact h1) ?_ ?_
  · show X.env.scope.names.lookup x = _ ∨ X.env.scope.names.lookup x = _
    rw [O.sc]
    rcases h2 with z | z
    · exact .inl z
    · exact .inr z.1
  · rw [O.sc]
    rcases h2 with z | z
    · exact .inr z
    · exact .inl (O.cell x z.1 z.2)
/-- the operations -/
def rBin (K : PySem.W.Frag) : Bop → R2
  | .add => rAddD K
  | .sub => rI0 fun i j => .int (i - j)
  | .mul => rMulD
  | .fdiv => rI CDivW fun i j => .int (i / j)
  | .md => rI (fun _ j => 0 < j) fun i j => .int (i % j)
  | .pow => rI CPow fun i j => .int (i ^ j.toNat)
theorem ok_bin (o : Bop) : OpOk K (rBin K o) (binD o) := by
  cases o
  · exact ok_add
  · exact ok_sub
  · exact ok_mul
  · exact ok_fdiv
  · exact ok_md
  · exact ok_pow
theorem pe_bin {a b : Expr} {ta tb : TE} {pos : Pos} {op : Operator} {o : Bop} (h : bopOf op = some o) (ha : PE X a ta) (hb : PE X b tb) : PE X (.BinOp a op b pos) (tOp (rBin X.K o) ta tb) := by
  cases op <;> first | contradiction | skip
  · cases h
    exact pe_op op_addD ha hb
  · cases h
    exact pe_op op_sub ha hb
  · cases h
    exact pe_op op_mulD ha hb
  · cases h
    exact pe_op op_mod ha hb
  · cases h
    exact pe_op op_pow ha hb
  · cases h
    exact pe_op op_fdivW ha hb
theorem copOf_nb {op : CmpOp} {o : Cop} (h : copOf op = some o) (b : Expr) : behindInMarks op b = false := by
  cases op <;> first | contradiction | exact nomark b
theorem copOf_lm {op op' : CmpOp} {o' : Cop} (h : copOf op' = some o') (b c : Expr) : lastMarks [op, op'] [b, c] = false := by
  show behindInMarks op' c = false
  exact copOf_nb h c
theorem star_eq (env : Env) {e : Expr} (h : plainArgs [e] = true) : starEach [e] env = (false, eval e env) :: starEach [] env := star_cons env h
theorem plainIx_of {b : Expr} (h : ∀ l u s p, b ≠ .Slice l u s p) : PlainIx b := by
  intro o i
  cases b <;> first | rfl | exact absurd rfl (h _ _ _ _)
/-- a test that is not and, or, not, a comparison, a choice -/
def plainT : Expr → Bool
  | .UnaryOp .Not _ _ => false
  | .BoolOp _ _ _ => false
  | .IfExp _ _ _ _ => false
  | .Compare _ _ _ _ => false
  | _ => true
theorem pt_plain {e : Expr} {t : TE} (h : PE X e t) (hp : plainT e = true) : PT X e (tB t) := by
  refine pt_val h fun wh => ?_
  cases e with
  | UnaryOp op a p => cases op <;> first | rfl | cases hp
  | _ => first | rfl | cases hp
def tIfT (t ta tb : TT) : TT := fun σ H Q => t σ H fun c H1 => if c = true then ta σ H1 Q else tb σ H1 Q
theorem pt_ifExp {a b d : Expr} {ta tb td : TT} {pos : Pos} (hd : PT X d td) (ha : PT X a ta) (hb : PT X b tb) : PT X (.IfExp d a b pos) (tIfT td ta tb) := by
  refine ⟨fun pins s σ H Q I h => ?_⟩
  show wpAny _ _ (isTrue d X.env (eval d X.env) >>= fun k => if k = true then isTrue a X.env (eval a X.env) else isTrue b X.env (eval b X.env)) _ _ s
  refine wpAny_bind (thn (hd.run pins s σ H _ I h) fun k s1 ⟨H1, I1, q1⟩ => ?_)
  cases k with
  | true => exact ha.run pins s1 σ H1 Q I1 q1
  | false => exact hb.run pins s1 σ H1 Q I1 q1
theorem ok_ifT {td ta tb : TT} {fd fa fb : EnvD → Option (Opd × EnvD)} (hd : TTok K td (fT fd)) (ha : TTok K ta (fT fa)) (hb : TTok K tb (fT fb)) : TTok K (tIfT td ta tb) (fT fun env => (fd env).bind fun p => (truth p.1).bind fun t => match t with
    | true => fa p.2
    | false => fb p.2) := by
  intro R G0 G H env σ tmp b env' Q S e q
  unfold fT at e
  simp only [Option.bind_eq_some_iff] at e
  obtain ⟨⟨o2, e2⟩, ⟨⟨o1, e1⟩, h1, t, ht, h2⟩, k, hk, e⟩ := e
  cases e
  have z1 : fT fd env = some (t, e1) := by
    unfold fT
    simp only [Option.bind_eq_some_iff]
    exact ⟨_, h1, t, ht, rfl⟩
  refine hd _ _ _ _ _ _ _ _ _ _ S z1 fun G1 H1 g1 S1 => ?_
  cases t with
  | true =>
    have z2 : fT fa e1 = some (b, e2) := by
      unfold fT
      simp only [Option.bind_eq_some_iff]
      exact ⟨_, h2, b, hk, rfl⟩
    exact ha _ _ _ _ _ _ _ _ _ _ S1 z2 fun G2 H2 g2 S2 => q G2 H2 (g1.trans g2) S2
  | false =>
    have z2 : fT fb e1 = some (b, e2) := by
      unfold fT
      simp only [Option.bind_eq_some_iff]
      exact ⟨_, h2, b, hk, rfl⟩
    exact hb _ _ _ _ _ _ _ _ _ _ S1 z2 fun G2 H2 g2 S2 => q G2 H2 (g1.trans g2) S2
end
end Pd

/-! the reading is right: the induction over expressions -/
namespace Pd
open PySem PySem.Spec PyProof.Rows L2

section
variable (P : Program) (w : World) (K : PySem.W.Frag) (mg : Str → Option Value) (base : Heap) (Γ : Tab) (lv : Nat)
def EOk (c : CC) (e : Expr) (ir : Ex) : Prop :=
  (∃ t, TEok K t (evE Γ ir) ∧ ∀ X, XO P w K mg base Γ lv c X → PE X e t) ∧ ∃ t, TTok K t (fT (evE Γ ir)) ∧ ∀ X, XO P w K mg base Γ lv c X → PT X e t
def BOk (c : CC) (e : Expr) (ir : Ex) : Prop :=
  (∃ t, TEok K t (evE Γ ir) ∧ ∀ X, XO P w K mg base Γ lv c X → PE X e t) ∧ ∃ t, TTok K t (fT (evE Γ ir)) ∧ ∀ X, XO P w K mg base Γ lv c X → PW X e t
def VOk (c : CC) (e : Expr) (ir : Ex) : Prop := ∃ t, TEok K t (evE Γ ir) ∧ ∀ X, XO P w K mg base Γ lv c X → PE X e t
def AOk (c : CC) (es : List Expr) (irs : Exs) : Prop :=
  ∃ t, TAok K t (evEs Γ irs) ∧ (∀ X, XO P w K mg base Γ lv c X → (plainArgs es = true → PA X es t) ∧ ∀ kws, kwVals kws = es → PK X kws t) ∧ (∀ env p, evEs Γ irs env = some p → p.1.length = es.length) ∧ (es = [] → t = tNil)
/-- the tests of a clause -/
def TsOk (c : CC) (es : List Expr) (irs : Exs) : Prop :=
  es.length ≤ 1 → ∃ t, TTok K t (evAll Γ irs) ∧ ∀ X, XO P w K mg base Γ lv c X → PTs X es t
def OOk (c : CC) (e : Option Expr) (ir : Eo) : Prop := ∃ t, TOok K t (evO Γ ir) ∧ ∀ X, XO P w K mg base Γ lv c X → PO X e t
def SOk (c : CC) (e tg : Expr) (ir : Src) : Prop := ∃ t, TIok K t (evS Γ ir) ∧ ∀ X, XO P w K mg base Γ lv c X → PI X tg e t
def GOk (c : CC) (e : Expr) (ir : Tg) : Prop := ∃ t, TGok K t (tgIx ir) (asgT Γ ir) ∧ ∀ X, XO P w K mg base Γ lv c X → PG X e t
def GsOk (c : CC) (es : List Expr) (irs : Tgs) : Prop :=
  ∃ t, TGsok K t (tgIxs irs) (asgTs Γ irs) ∧ (∀ X, XO P w K mg base Γ lv c X → plainArgs es = true → PGs X es t) ∧ ∀ ds e e', asgTs Γ irs ds e = some e' → ds.length = es.length
end

section
variable {P : Program} {w : World} {K : PySem.W.Frag} {mg : Str → Option Value} {base : Heap} {Γ : Tab} {lv : Nat} {c : CC}
theorem VOk.e {e : Expr} {ir : Ex} (h : VOk P w K mg base Γ lv c e ir) (hp : plainT e = true) : EOk P w K mg base Γ lv c e ir := by
  obtain ⟨t, h1, h2⟩ := h
  exact ⟨⟨t, h1, h2⟩, tB t, ok_test h1, fun X O => pt_plain (h2 X O) hp⟩
theorem BOk.e {e : Expr} {ir : Ex} (h : BOk P w K mg base Γ lv c e ir) : EOk P w K mg base Γ lv c e ir := by
  obtain ⟨h1, t, h2, h3⟩ := h
  exact ⟨h1, t, h2, fun X O => (h3 X O).pt⟩
theorem o_cst {v : Const} {d : PyData} {k : Nat} {pos : Pos} (h : cst v = some d) : VOk P w K mg base Γ lv c (.Constant v k pos) (.cst d) := by
  cases v <;> first | contradiction | skip
  · cases h
    exact ⟨tC .non, ok_cst fun _ => .non, fun X O => pe_non⟩
  · cases h
    exact ⟨tC (.bl _), ok_cst fun _ => .bl _, fun X O => pe_bl⟩
  · cases h
    exact ⟨tC (.int _), ok_cst fun _ => .int _, fun X O => pe_int⟩
  · cases h
    exact ⟨tC (.str _), ok_cst fun _ => .str _, fun X O => pe_str⟩
theorem o_var {x : Str} {ir : Ex} {pos : Pos} (G : GO P w K mg base c Γ lv) (h : cVar c x = some ir) : VOk P w K mg base Γ lv c (.Name x pos) ir := by
  unfold cVar at h
  split at h
  · rename_i i hs
    cases h
    exact ⟨tVar i, ok_var, fun X O => O.var hs⟩
  · split at h
    · rename_i hg
      rw [Option.bind_eq_some_iff] at h
      obtain ⟨d, hd, e⟩ := h
      cases e
      obtain ⟨v, u, h1, h2, h3⟩ := G.glb x d hd
      exact ⟨tC v, ok_cst h3, fun X O => pe_glob (O.gl hg) (by rw [O.hm]; exact h1) h2 (isGl_nm hg)⟩
    · cases h
theorem o_bin {a b : Expr} {op : Operator} {o : Bop} {x y : Ex} {pos : Pos} (h : bopOf op = some o) (ha : VOk P w K mg base Γ lv c a x) (hb : VOk P w K mg base Γ lv c b y) : VOk P w K mg base Γ lv c (.BinOp a op b pos) (.bin o x y) := by
  obtain ⟨ta, a1, a2⟩ := ha
  obtain ⟨tb, b1, b2⟩ := hb
  refine ⟨tOp (rBin K o) ta tb, ok_op (ok_bin o) a1 b1, fun X O => ?_⟩
  have := pe_bin (pos := pos) h (a2 X O) (b2 X O)
  rw [O.hK] at this
  exact this
theorem o_cmp {a b : Expr} {op : CmpOp} {o : Cop} {x y : Ex} {pos : Pos} (h : copOf op = some o) (ha : VOk P w K mg base Γ lv c a x) (hb : VOk P w K mg base Γ lv c b y) : EOk P w K mg base Γ lv c (.Compare a [op] [b] pos) (.cmp o x y) := by
  obtain ⟨ta, a1, a2⟩ := ha
  obtain ⟨tb, b1, b2⟩ := hb
  have e1 := copOf_py h
  have t1 : TEok K (tOp (rCmp K o) ta tb) (evE Γ (.cmp o x y)) := ok_opB (ok_cmp o) a1 b1
  refine ⟨⟨_, t1, fun X O => ?_⟩, _, ok_tTest t1, fun X O => ?_⟩
  · have := pe_cmpR (pos := pos) (op_cmpD (X := X) (by have := O.units; omega) o) (a2 X O) (b2 X O) (by rw [← e1]; exact copOf_nb h b)
    rw [O.hK, ← e1] at this
    exact this
  · have := pt_cmpR (pos := pos) (op_cmpD (X := X) (by have := O.units; omega) o) (a2 X O) (b2 X O) (by rw [← e1]; exact copOf_nb h b)
    rw [O.hK, ← e1] at this
    exact this
theorem o_chn {a b d : Expr} {op op' : CmpOp} {o o' : Cop} {x y z : Ex} {pos : Pos} (h : copOf op = some o) (h' : copOf op' = some o') (ha : VOk P w K mg base Γ lv c a x) (hb : VOk P w K mg base Γ lv c b y) (hd : VOk P w K mg base Γ lv c d z) :
    EOk P w K mg base Γ lv c (.Compare a [op, op'] [b, d] pos) (.chn o o' x y z) := by
  obtain ⟨ta, a1, a2⟩ := ha
  obtain ⟨tb, b1, b2⟩ := hb
  obtain ⟨td, d1, d2⟩ := hd
  have e1 := copOf_py h
  have e2 := copOf_py h'
  have t1 : TEok K (tChain (rCmp K o) (rCmp K o') ta tb td) (evE Γ (.chn o o' x y z)) := ok_chain (ok_cmp o) (ok_cmp o') a1 b1 d1
  refine ⟨⟨_, t1, fun X O => ?_⟩, _, ok_tTest t1, fun X O => ?_⟩
  · have := pe_chain (pos := pos) (op_cmpD (X := X) (by have := O.units; omega) o) (op_cmpD (X := X) (by have := O.units; omega) o') (a2 X O) (b2 X O) (d2 X O) (by rw [← e1, ← e2]; exact copOf_lm h' b d)
    rw [O.hK, ← e1, ← e2] at this
    exact this
  · have := pt_chain (pos := pos) (op_cmpD (X := X) (by have := O.units; omega) o) (op_cmpD (X := X) (by have := O.units; omega) o') (a2 X O) (b2 X O) (d2 X O) (by rw [← e1, ← e2]; exact copOf_lm h' b d)
    rw [O.hK, ← e1, ← e2] at this
    exact this
theorem o_inn {a b : Expr} {ng : Bool} {x y : Ex} {pos : Pos} (h : behindInMarks (if ng then .NotIn else .In) b = false) (ha : VOk P w K mg base Γ lv c a x) (hb : VOk P w K mg base Γ lv c b y) : EOk P w K mg base Γ lv c (.Compare a [if ng then .NotIn else .In] [b] pos) (.inn ng x y) := by
  obtain ⟨ta, a1, a2⟩ := ha
  obtain ⟨tb, b1, b2⟩ := hb
  have t1 : TEok K (tOp (rIn K ng) ta tb) (evE Γ (.inn ng x y)) := ok_opB ok_inn a1 b1
  have hop : ∀ X : Cx, OpR X (compareOp (if ng then .NotIn else .In)) (rIn X.K ng) := fun X => by
    cases ng
    · exact op_in_seq
    · exact op_notIn_seq
  refine ⟨⟨_, t1, fun X O => ?_⟩, _, ok_tTest t1, fun X O => ?_⟩
  · have := pe_cmpR (pos := pos) (hop X) (a2 X O) (b2 X O) h
    rw [O.hK] at this
    exact this
  · have := pt_cmpR (pos := pos) (hop X) (a2 X O) (b2 X O) h
    rw [O.hK] at this
    exact this
theorem o_isN {a : Expr} {ng : Bool} {x : Ex} {pos p2 : Pos} {k2 : Nat} (ha : VOk P w K mg base Γ lv c a x) : EOk P w K mg base Γ lv c (.Compare a [if ng then .IsNot else .Is] [.Constant .none k2 p2] pos) (.isc ng .none x) := by
  obtain ⟨ta, a1, a2⟩ := ha
  have hr : ∀ d b (v : V) (G H : Hp) (Q : VK), isD ng .none d = some b → Rp K G v d → Q (.bl b) H → (fun x y H Q => y = V.non ∧ Q (.bl (if ng then !decide (x = .non) else decide (x = .non))) H : R2) v .non H Q := by
    intro d b v G H Q h r q
    refine ⟨rfl, ?_⟩
    have hb : b = (if ng then !decide (v = .non) else decide (v = .non)) := by
      cases r <;> (cases ng <;> (cases h; simp))
    rw [← hb]
    exact q
  have t1 : TEok K (tOp (fun x y H Q => y = V.non ∧ Q (.bl (if ng then !decide (x = .non) else decide (x = .non))) H : R2) ta (tC .non)) (evE Γ (.isc ng .none x)) := ok_isc (c := .none) (ng := ng) a1 rfl hr
  have hop : ∀ X : Cx, OpR X (compareOp (if ng then .IsNot else .Is)) (fun x y H Q => y = V.non ∧ Q (.bl (if ng then !decide (x = .non) else decide (x = .non))) H) := fun X => by
    cases ng
    · exact op_isN
    · exact op_notN
  have hm : behindInMarks (if ng then .IsNot else .Is) (.Constant .none k2 p2) = false := rfl
  exact ⟨⟨_, t1, fun X O => pe_cmpR (hop X) (a2 X O) pe_non hm⟩, _, ok_tTest t1, fun X O => pt_cmpR (hop X) (a2 X O) pe_non hm⟩
theorem o_isB {a : Expr} {ng k : Bool} {x : Ex} {pos p2 : Pos} {k2 : Nat} (ha : VOk P w K mg base Γ lv c a x) : EOk P w K mg base Γ lv c (.Compare a [if ng then .IsNot else .Is] [.Constant (.bool k) k2 p2] pos) (.isc ng (.bool k) x) := by
  obtain ⟨ta, a1, a2⟩ := ha
  have hr : ∀ d b (v : V) (G H : Hp) (Q : VK), isD ng (.bool k) d = some b → Rp K G v d → Q (.bl b) H → (fun x y H Q => ∃ a b, x = V.bl a ∧ y = V.bl b ∧ Q (.bl (if ng then !decide (a = b) else decide (a = b))) H : R2) v (.bl k) H Q := by
    intro d b v G H Q h r q
    cases r with
    | bl j =>
      cases h
      exact ⟨j, k, rfl, rfl, q⟩
    | _ => cases h
  have t1 : TEok K (tOp (fun x y H Q => ∃ a b, x = V.bl a ∧ y = V.bl b ∧ Q (.bl (if ng then !decide (a = b) else decide (a = b))) H : R2) ta (tC (.bl k))) (evE Γ (.isc ng (.bool k) x)) := ok_isc (c := .bool k) (ng := ng) a1 rfl hr
  have hop : ∀ X : Cx, OpR X (compareOp (if ng then .IsNot else .Is)) (fun x y H Q => ∃ a b, x = V.bl a ∧ y = V.bl b ∧ Q (.bl (if ng then !decide (a = b) else decide (a = b))) H) := fun X => by
    cases ng
    · exact op_isBl
    · exact op_notBl
  have hm : behindInMarks (if ng then .IsNot else .Is) (.Constant (.bool k) k2 p2) = false := rfl
  exact ⟨⟨_, t1, fun X O => pe_cmpR (hop X) (a2 X O) pe_bl hm⟩, _, ok_tTest t1, fun X O => pt_cmpR (hop X) (a2 X O) pe_bl hm⟩
theorem o_not {a : Expr} {x : Ex} {pos : Pos} (ha : EOk P w K mg base Γ lv c a x) : EOk P w K mg base Γ lv c (.UnaryOp .Not a pos) (.not_ x) := by
  obtain ⟨⟨ta, a1, a2⟩, tb, b1, b2⟩ := ha
  exact ⟨⟨_, ok_notV a1, fun X O => pe_not (a2 X O)⟩, _, ok_notT b1, fun X O => pt_not (b2 X O)⟩
theorem o_neg {a : Expr} {x : Ex} {pos : Pos} (ha : VOk P w K mg base Γ lv c a x) : VOk P w K mg base Γ lv c (.UnaryOp .USub a pos) (.neg x) := by
  obtain ⟨ta, a1, a2⟩ := ha
  exact ⟨_, ok_neg a1, fun X O => pe_un un_neg (a2 X O)⟩
theorem o_ite {d a b : Expr} {z x y : Ex} {pos : Pos} (hd : EOk P w K mg base Γ lv c d z) (ha : EOk P w K mg base Γ lv c a x) (hb : EOk P w K mg base Γ lv c b y) : EOk P w K mg base Γ lv c (.IfExp d a b pos) (.ite z x y) := by
  obtain ⟨_, td, d1, d2⟩ := hd
  obtain ⟨⟨ta, a1, a2⟩, ua, a3, a4⟩ := ha
  obtain ⟨⟨tb, b1, b2⟩, ub, b3, b4⟩ := hb
  exact ⟨⟨_, ok_if d1 a1 b1, fun X O => pe_ifExp (d2 X O) (a2 X O) (b2 X O)⟩, _, ok_ifT d1 a3 b3, fun X O => pt_ifExp (d2 X O) (a4 X O) (b4 X O)⟩
theorem o_lst {es : List Expr} {irs : Exs} {pos : Pos} (h : AOk P w K mg base Γ lv c es irs) (hp : plainArgs es = true) : VOk P w K mg base Γ lv c (.List es pos) (.lst irs) := by
  obtain ⟨t, h1, h2, _⟩ := h
  exact ⟨_, ok_lst h1, fun X O => pe_lst ((h2 X O).1 hp)⟩
theorem o_tup {es : List Expr} {irs : Exs} {pos : Pos} {k : Nat} (h : AOk P w K mg base Γ lv c es irs) (hp : plainArgs es = true) : VOk P w K mg base Γ lv c (.Tuple es k pos) (.tup irs) := by
  obtain ⟨t, h1, h2, _⟩ := h
  exact ⟨_, ok_tup h1, fun X O => pe_tup ((h2 X O).1 hp)⟩
theorem o_idx {a b : Expr} {x y : Ex} {pos : Pos} (hb0 : ∀ l u s p, b ≠ .Slice l u s p) (ha : VOk P w K mg base Γ lv c a x) (hb : VOk P w K mg base Γ lv c b y) : VOk P w K mg base Γ lv c (.Subscript a b pos) (.idx x y) := by
  obtain ⟨ta, a1, a2⟩ := ha
  obtain ⟨tb, b1, b2⟩ := hb
  refine ⟨tOp (rIdxD K) ta tb, fun R G0 G H env σ tmp o env' Q S e q => ok_op ok_idx a1 b1 _ _ _ _ _ _ _ _ _ _ S ?_ q, fun X O => ?_⟩
  · rw [evE] at e
    simp only [Option.bind_eq_some_iff] at e ⊢
    obtain ⟨p, h1, q, h2, d1, r1, d2, r2, z, hz, e⟩ := e
    exact ⟨p, h1, q, h2, d1, r1, d2, r2, .va z, by rw [hz]; rfl, e⟩
  · have := pe_ix (pos := pos) (ix_idxD (X := X)) (a2 X O) (b2 X O) (plainIx_of hb0)
    rw [O.hK] at this
    exact this
theorem o_slc {a : Expr} {lo hi : Option Expr} {x : Ex} {l h : Eo} {pos p2 : Pos} (ha : VOk P w K mg base Γ lv c a x) (hl : OOk P w K mg base Γ lv c lo l) (hh : OOk P w K mg base Γ lv c hi h) : VOk P w K mg base Γ lv c (.Subscript a (.Slice lo hi none p2) pos) (.slc x l h) := by
  obtain ⟨ta, a1, a2⟩ := ha
  obtain ⟨tl, l1, l2⟩ := hl
  obtain ⟨th, h1, h2⟩ := hh
  refine ⟨tSl (rSlcD K) ta tl th, ok_slc a1 l1 h1, fun X O => ?_⟩
  have := pe_slice (pos := pos) (p2 := p2) (sl_slcD (X := X)) (a2 X O) (l2 X O) (h2 X O)
  rw [O.hK] at this
  exact this
theorem o_and {a b : Expr} {r : List Expr} {x y : Ex} {pos : Pos} (ha : EOk P w K mg base Γ lv c a x) (hb : BOk P w K mg base Γ lv c (.BoolOp .And (b :: r) pos) y) : BOk P w K mg base Γ lv c (.BoolOp .And (a :: b :: r) pos) (.and_ x y) := by
  obtain ⟨⟨ta, a1, a2⟩, ua, a3, a4⟩ := ha
  obtain ⟨⟨tb, b1, b2⟩, ub, b3, b4⟩ := hb
  exact ⟨⟨_, ok_andV a1 b1, fun X O => pe_and (a2 X O) (b2 X O)⟩, _, ok_andT a3 b3, fun X O => pw_and (a4 X O) (b4 X O)⟩
theorem o_or {a b : Expr} {r : List Expr} {x y : Ex} {pos : Pos} (ha : EOk P w K mg base Γ lv c a x) (hb : BOk P w K mg base Γ lv c (.BoolOp .Or (b :: r) pos) y) : BOk P w K mg base Γ lv c (.BoolOp .Or (a :: b :: r) pos) (.or_ x y) := by
  obtain ⟨⟨ta, a1, a2⟩, ua, a3, a4⟩ := ha
  obtain ⟨⟨tb, b1, b2⟩, ub, b3, b4⟩ := hb
  exact ⟨⟨_, ok_orV a1 b1, fun X O => pe_or (a2 X O) (b2 X O)⟩, _, ok_orT a3 b3, fun X O => pw_or (a4 X O) (b4 X O)⟩
theorem o_bl1 {a : Expr} {op : BoolOp} {x : Ex} {pos : Pos} (ha : EOk P w K mg base Γ lv c a x) : BOk P w K mg base Γ lv c (.BoolOp op [a] pos) x := by
  obtain ⟨⟨ta, a1, a2⟩, ua, a3, a4⟩ := ha
  refine ⟨⟨_, a1, fun X O => pe_one (a2 X O)⟩, _, a3, fun X O => ?_⟩
  cases op
  · exact pw_and1 (a4 X O)
  · exact pw_or1 (a4 X O)
end
end Pd

/-! the reading is right: calls, comprehensions, sources, targets -/
namespace Pd
open PySem PySem.Spec PyProof.Rows L2

theorem bt_int : bootBuiltins "int" = some (.type "int") := by decide +kernel
theorem bt_bool : bootBuiltins "bool" = some (.type "bool") := by decide +kernel
theorem bt_str : bootBuiltins "str" = some (.type "str") := by decide +kernel
theorem bt_list : bootBuiltins "list" = some (.type "list") := by decide +kernel
theorem bt_tuple : bootBuiltins "tuple" = some (.type "tuple") := by decide +kernel
theorem bt_dict : bootBuiltins "dict" = some (.type "dict") := by decide +kernel
theorem bt_len : bootBuiltins "len" = some (.builtin "len") := by decide +kernel
theorem bt_sum : bootBuiltins "sum" = some (.builtin "sum") := by decide +kernel
theorem bt_max : bootBuiltins "max" = some (.builtin "max") := by decide +kernel
theorem bt_min : bootBuiltins "min" = some (.builtin "min") := by decide +kernel
theorem bt_abs : bootBuiltins "abs" = some (.builtin "abs") := by decide +kernel
theorem bt_all : bootBuiltins "all" = some (.builtin "all") := by decide +kernel
theorem bt_any : bootBuiltins "any" = some (.builtin "any") := by decide +kernel
theorem bt_sorted : bootBuiltins "sorted" = some (.builtin "sorted") := by decide +kernel
theorem bt_divmod : bootBuiltins "divmod" = some (.builtin "divmod") := by decide +kernel
theorem bt_repr : bootBuiltins "repr" = some (.builtin "repr") := by decide +kernel
theorem bt_isi : bootBuiltins "isinstance" = some (.builtin "isinstance") := by decide +kernel

section
variable {P : Program} {w : World} {K : PySem.W.Frag} {mg : Str → Option Value} {base : Heap} {Γ : Tab} {lv : Nat} {c : CC} {X : Cx}
theorem pa_c {e : Expr} {es : List Expr} {te : TE} {t : TA} (hp : plainArgs (e :: es) = true) (ha : PE X e te) (hr : PA X es t) : PA X (e :: es) (tCons te t) := pa_cons ha hr (star_cons X.env hp)
theorem any_c {e : Expr} {es : List Expr} (pos : Pos) (hp : plainArgs (e :: es) = true) : (backTo pos (starEach es X.env)).any (·.1) = false := star_any X.env pos (plainArgs_cons hp)
/-- a built-in function -/
theorem o_blt {x : Str} {id : String} {r : List V → Hp → VK → Prop} {b : Bi} {es : List Expr} {irs : Exs} {p pos : Pos} (hx : x ∈ bNames) (hv : bootBuiltins x = some (.builtin id)) (hn : x ≠ "__name__") (ok : CallOk K r (biD b))
    (hc : ∀ X, XO P w K mg base Γ lv c X → CallR X (.builtin id) r) (hg : isGl c x = true) (hp : plainArgs es = true) (hne : es ≠ []) (h : AOk P w K mg base Γ lv c es irs) : VOk P w K mg base Γ lv c (.Call (.Name x p) es [] pos) (.bi b irs) := by
  obtain ⟨t, h1, h2, _⟩ := h
  refine ⟨tCB r t, ok_call ok h1, fun X O => ?_⟩
  cases es with
  | nil => exact absurd rfl hne
  | cons e es => exact pe_callB (hc X O) (O.gl hg) (O.bi hx) hv ((h2 X O).1 hp) hn (isGl_nm hg) (star_cons X.env hp) (any_c pos hp)
/-- a built-in type -/
theorem o_bty {x : Str} {id : String} {r : List V → Hp → VK → Prop} {b : Bi} {es : List Expr} {irs : Exs} {p pos : Pos} (hx : x ∈ bNames) (hv : bootBuiltins x = some (.type id)) (hn : x ≠ "__name__") (ok : CallOk K r (biD b))
    (hc : ∀ X, XO P w K mg base Γ lv c X → CallR X (.type id) r) (hg : isGl c x = true) (hp : plainArgs es = true) (hne : es ≠ []) (h : AOk P w K mg base Γ lv c es irs) : VOk P w K mg base Γ lv c (.Call (.Name x p) es [] pos) (.bi b irs) := by
  obtain ⟨t, h1, h2, _⟩ := h
  refine ⟨tCB r t, ok_call ok h1, fun X O => ?_⟩
  cases es with
  | nil => exact absurd rfl hne
  | cons e es => exact pe_callTy (hc X O) (O.gl hg) (O.bi hx) hv ((h2 X O).1 hp) hn (isGl_nm hg) (star_cons X.env hp) (any_c pos hp)
theorem lookup_mem {β : Type} {x : Str} {b : β} : ∀ {l : List (Str × β)}, l.lookup x = some b → (x, b) ∈ l
  | [], h => by cases h
  | (y, d) :: r, h => by
    rw [List.lookup_cons] at h
    split at h
    · rename_i e
      cases h
      rw [eq_of_beq e]
      exact List.mem_cons_self
    · exact List.mem_cons_of_mem _ (lookup_mem h)
theorem o_bi {x : Str} {b : Bi} {es : List Expr} {irs : Exs} {p pos : Pos} (hb : biOf x = some b) (hg : isGl c x = true) (hp : plainArgs es = true) (hne : es ≠ []) (h : AOk P w K mg base Γ lv c es irs) : VOk P w K mg base Γ lv c (.Call (.Name x p) es [] pos) (.bi b irs) := by
  have hb := lookup_mem hb
  simp only [biTab, List.mem_cons, List.not_mem_nil, or_false, Prod.mk.injEq] at hb
  rcases hb with ⟨rfl, rfl⟩ | ⟨rfl, rfl⟩ | ⟨rfl, rfl⟩ | ⟨rfl, rfl⟩ | ⟨rfl, rfl⟩ | ⟨rfl, rfl⟩ | ⟨rfl, rfl⟩ | ⟨rfl, rfl⟩ | ⟨rfl, rfl⟩ | ⟨rfl, rfl⟩ | ⟨rfl, rfl⟩ | ⟨rfl, rfl⟩ | ⟨rfl, rfl⟩
  · exact o_blt (by decide) bt_len (by decide) ok_len (fun X O => by have := (call_len (X := X)); rw [O.hK] at this; exact this) hg hp hne h
  · exact o_blt (by decide) bt_sum (by decide) ok_sum (fun X O => by have := (cr_sumD (X := X) O.calm); rw [O.hK] at this; exact this) hg hp hne h
  · exact o_blt (by decide) bt_max (by decide) ok_max (fun X O => by have := (cr_maxD (X := X) O.calm); rw [O.hK] at this; exact this) hg hp hne h
  · exact o_blt (by decide) bt_min (by decide) ok_min (fun X O => by have := (cr_minD (X := X) O.calm); rw [O.hK] at this; exact this) hg hp hne h
  · exact o_blt (by decide) bt_abs (by decide) ok_abs (fun X O => call_abs) hg hp hne h
  · exact o_bty (by decide) bt_int (by decide) ok_int (fun X O => call_int1) hg hp hne h
  · exact o_bty (by decide) bt_list (by decide) ok_list (fun X O => by have := (call_list_of (X := X)); rw [O.hK] at this; exact this) hg hp hne h
  · exact o_bty (by decide) bt_tuple (by decide) ok_tuple (fun X O => by have := (call_tuple_of (X := X)); rw [O.hK] at this; exact this) hg hp hne h
  · exact o_blt (by decide) bt_all (by decide) ok_all (fun X O => by have := (cr_all (X := X) O.calm); rw [O.hK] at this; exact this) hg hp hne h
  · exact o_blt (by decide) bt_any (by decide) ok_any (fun X O => by have := (cr_any (X := X) O.calm); rw [O.hK] at this; exact this) hg hp hne h
  · exact o_blt (by decide) bt_sorted (by decide) ok_sorted (fun X O => by have := (cr_sortedI (X := X)); rw [O.hK] at this; exact this) hg hp hne h
  · exact o_blt (by decide) bt_divmod (by decide) ok_divmod (fun X O => call_divmodW) hg hp hne h
  · exact o_blt (by decide) bt_repr (by decide) ok_repr (fun X O => by have := (cr_repr (X := X) O.guards O.units); rw [O.hK] at this; exact this) hg hp hne h
/-- a def -/
theorem o_fn {x : Str} {k : Nat} {g : FnI} {kws : List Keyword} {ks : List Str} {pm : List Nat} {es : List Expr} {irs jrs : Exs} {p pos : Pos} (G : GO P w K mg base c Γ lv) (hf : fnAt x c.fns 0 = some (k, g)) (hk : kwNames kws = some ks) (hs : shapeAt es.length ks g.shapes = some pm) (hg : isGl c x = true) (hp : plainArgs es = true)
    (h : AOk P w K mg base Γ lv c es irs) (h' : AOk P w K mg base Γ lv c (kwVals kws) jrs) : VOk P w K mg base Γ lv c (.Call (.Name x p) es kws pos) (.call k irs jrs pm) := by
  obtain ⟨t, h1, h2, hl, hnil⟩ := h
  obtain ⟨tk, h1', h2', hl', _⟩ := h'
  obtain ⟨sig, f, fd, e1, e2, e3, F, B⟩ := G.fns x k g hf
  have hlen : ∀ {kws : List Keyword} {ks : List Str}, kwNames kws = some ks → (kwVals kws).length = ks.length := by
    intro kws
    induction kws with
    | nil =>
      intro ks h
      cases h
      rfl
    | cons a r ih =>
      intro ks h
      obtain ⟨o, e, q⟩ := a
      cases o with
      | none => cases h
      | some nm =>
        unfold kwNames at h
        rw [Option.bind_eq_some_iff] at h
        obtain ⟨ks', z, e⟩ := h
        cases e
        show (kwVals r).length + 1 = ks'.length + 1
        rw [ih z]
  refine ⟨tCallD (spD K sig) es.length ks.length pm t tk, ok_callD e1 h1 h1' hl (fun e p z => (hl' e p z).trans (hlen hk)), fun X O => ?_⟩
  have F' : FnD X.prog X.w X.K X.mg X.base lv f fd g.ps (spD K sig) := by
    rw [O.hP, O.hw, O.hK, O.hm, O.hb]
    exact F
  have B' : BindsD X.K fd g.ps es.length ks pm := by
    rw [O.hK]
    exact B _ _ _ hs
  have e3' : PySem.W.keepIn X.K (.ref f) = true := by
    rw [O.hK]
    exact e3
  cases es with
  | nil =>
    rw [hnil rfl]
    exact pe_callD0 (p := p) (pos := pos) F' O.room O.guards (O.gl hg) (by rw [O.hm]; exact e2) e3' B' hk ((h2' X O).2 kws rfl) (isGl_nm hg)
  | cons e es => exact pe_callD F' O.room O.guards (O.gl hg) (by rw [O.hm]; exact e2) e3' B' hp hk ((h2 X O).1 hp) ((h2' X O).2 kws rfl) (isGl_nm hg)
end
end Pd
namespace Pd
open PySem PySem.Spec PyProof.Rows L2
section
variable {P : Program} {w : World} {K : PySem.W.Frag} {mg : Str → Option Value} {base : Heap} {Γ : Tab} {lv : Nat} {c : CC} {X : Cx}
theorem ty_boot {x : Str} {t : Ty} (h : tyOf x = some t) : x ∈ bNames ∧ bootBuiltins x = some (.type t.name) ∧ x ≠ "__name__" := by
  have h := lookup_mem h
  simp only [tyTab, List.mem_cons, List.not_mem_nil, or_false, Prod.mk.injEq] at h
  rcases h with ⟨rfl, rfl⟩ | ⟨rfl, rfl⟩ | ⟨rfl, rfl⟩ | ⟨rfl, rfl⟩ | ⟨rfl, rfl⟩ | ⟨rfl, rfl⟩
  · exact ⟨by decide, bt_int, by decide⟩
  · exact ⟨by decide, bt_bool, by decide⟩
  · exact ⟨by decide, bt_str, by decide⟩
  · exact ⟨by decide, bt_list, by decide⟩
  · exact ⟨by decide, bt_tuple, by decide⟩
  · exact ⟨by decide, bt_dict, by decide⟩
theorem XO.ty (O : XO P w K mg base Γ lv c X) {x : Str} {t : Ty} {pos : Pos} (hg : isGl c x = true) (h : tyOf x = some t) : PE X (.Name x pos) (tC (.ty t.name)) := by
  obtain ⟨h1, h2, h3⟩ := ty_boot h
  exact pe_bltn (O.gl hg) (O.bi h1) h2 rfl h3 (isGl_nm hg)
theorem XO.tys (O : XO P w K mg base Γ lv c X) : ∀ {es : List Expr} {ts : List Ty}, tyNames c es = some ts → PA X es (tTys ts)
  | [], ts, h => by
    cases h
    exact pa_nil
  | e :: es, ts, h => by
    cases e with
    | Name x pos =>
      unfold tyNames at h
      split at h
      · rename_i hg
        simp only [Option.bind_eq_some_iff] at h
        obtain ⟨t, h1, ts', h2, e⟩ := h
        cases e
        have z := pa_cons (O.ty (pos := pos) hg h1) (O.tys h2) rfl
        exact z
      · cases h
    | _ => cases h
theorem o_isi1 {a : Expr} {x : Ex} {y : Str} {t : Ty} {p p2 pos : Pos} (hg : isGl c ("isinstance" : Str) = true) (hgy : isGl c y = true) (ht : tyOf y = some t) (hp : plainArgs [a, .Name y p2] = true) (ha : VOk P w K mg base Γ lv c a x) :
    VOk P w K mg base Γ lv c (.Call (.Name "isinstance" p) [a, .Name y p2] [] pos) (.isi [t] x) := by
  obtain ⟨ta, a1, a2⟩ := ha
  refine ⟨_, ok_isi1 a1, fun X O => ?_⟩
  have z := pe_callB (p := p) (call_isi (X := X)) (O.gl hg) (O.bi (by decide)) bt_isi (pa_c hp (a2 X O) (pa_cons (O.ty (pos := p2) hgy ht) pa_nil rfl)) (by decide) (isGl_nm hg) (star_cons X.env hp) (any_c pos hp)
  rw [O.hK] at z
  exact z
theorem o_isiT {a : Expr} {x : Ex} {es : List Expr} {ts : List Ty} {k : Nat} {p p2 pos : Pos} (hg : isGl c ("isinstance" : Str) = true) (ht : tyNames c es = some ts) (hp : plainArgs [a, .Tuple es k p2] = true) (ha : VOk P w K mg base Γ lv c a x) :
    VOk P w K mg base Γ lv c (.Call (.Name "isinstance" p) [a, .Tuple es k p2] [] pos) (.isi ts x) := by
  obtain ⟨ta, a1, a2⟩ := ha
  refine ⟨_, ok_isiT a1, fun X O => ?_⟩
  have z := pe_callB (p := p) (call_isiT (X := X)) (O.gl hg) (O.bi (by decide)) bt_isi (pa_c hp (a2 X O) (pa_cons (pe_tup (x1 := k) (pos := p2) (O.tys ht)) pa_nil rfl)) (by decide) (isGl_nm hg) (star_cons X.env hp) (any_c pos hp)
  rw [O.hK] at z
  exact z
theorem o_reprL {es : List Expr} {irs : Exs} {p p2 pos : Pos} (hg : isGl c ("repr" : Str) = true) (hp : plainArgs es = true) (h : AOk P w K mg base Γ lv c es irs) : VOk P w K mg base Γ lv c (.Call (.Name "repr" p) [.List es p2] [] pos) (.reprL irs) := by
  obtain ⟨t, h1, h2, _⟩ := h
  refine ⟨_, ok_reprL h1, fun X O => ?_⟩
  have z := pe_callB (p := p) (pos := pos) (cr_repr (X := X) O.guards O.units) (O.gl hg) (O.bi (by decide)) bt_repr (pa_cons (pe_lst (pos := p2) ((h2 X O).1 hp)) pa_nil rfl) (by decide) (isGl_nm hg) rfl rfl
  rw [O.hK] at z
  exact z
theorem o_rg1 {tp : Bool} {a : Expr} {x : Ex} {p p2 pos pos2 : Pos} (hg : isGl c (if tp then ("tuple" : Str) else ("list" : Str)) = true) (hr : isGl c ("range" : Str) = true) (hp : plainArgs [a] = true) (ha : VOk P w K mg base Γ lv c a x) :
    VOk P w K mg base Γ lv c (.Call (.Name (if tp then ("tuple" : Str) else ("list" : Str)) p) [.Call (.Name "range" p2) [a] [] pos2] [] pos) (.rngL tp (.cons x .nil)) := by
  obtain ⟨ta, a1, a2⟩ := ha
  refine ⟨_, ok_rg1 a1, fun X O => ?_⟩
  exact pe_rgL tp O.calm (O.gl hg) (O.bi (by cases tp <;> decide)) (prg_1 (O.gl hr) (O.bi (by decide)) (a2 X O) (star_cons X.env hp)) rfl
theorem o_rg2 {tp : Bool} {a b : Expr} {x y : Ex} {p p2 pos pos2 : Pos} (hg : isGl c (if tp then ("tuple" : Str) else ("list" : Str)) = true) (hr : isGl c ("range" : Str) = true) (hp : plainArgs [a, b] = true) (ha : VOk P w K mg base Γ lv c a x) (hb : VOk P w K mg base Γ lv c b y) :
    VOk P w K mg base Γ lv c (.Call (.Name (if tp then ("tuple" : Str) else ("list" : Str)) p) [.Call (.Name "range" p2) [a, b] [] pos2] [] pos) (.rngL tp (.cons x (.cons y .nil))) := by
  obtain ⟨ta, a1, a2⟩ := ha
  obtain ⟨tb, b1, b2⟩ := hb
  refine ⟨_, ok_rg2 a1 b1, fun X O => ?_⟩
  exact pe_rgL tp O.calm (O.gl hg) (O.bi (by cases tp <;> decide)) (prg_2 (O.gl hr) (O.bi (by decide)) (a2 X O) (b2 X O) (star_cons X.env hp) (star_cons X.env (plainArgs_cons hp)) (star_any X.env _ (plainArgs_cons hp))) rfl
theorem o_rev {a : Expr} {x : Ex} {k : Nat} {p1 p2 p3 pos : Pos} (ha : VOk P w K mg base Γ lv c a x) : VOk P w K mg base Γ lv c (.Subscript a (.Slice none none (some (.UnaryOp .USub (.Constant (.int 1) k p1) p2)) p3) pos) (.rev x) := by
  obtain ⟨ta, a1, a2⟩ := ha
  refine ⟨_, ok_rev a1, fun X O => ?_⟩
  have z := pe_revL (k := k) (p1 := p1) (p2 := p2) (p3 := p3) (pos := pos) (a2 X O)
  rw [O.hK] at z
  exact z
/-! methods of a list -/
theorem o_bm {x : Str} {i : Nat} {id : String} {m : Str} {r : V → List V → Hp → VK → Prop} {f : List PyData → List PyData → Option (List PyData × PyData)} {a : Expr} {y : Ex} {pp ap pos : Pos} (hs : slot c x = some i) (hslot : Slot "list" m id) (hty : typeOf (.builtin id) = pure (.type "method_descriptor"))
    (hm : ∀ X : Cx, X.K = K → MtR X id r) (hp : plainArgs [a] = true) (hl : (ap.endLine == pos.line) = true) (hr : MutOk K r f) (ha : VOk P w K mg base Γ lv c a y) (ir : Ex)
    (hir : evE Γ ir = fun env => if isOwn env i then (evEs Γ (.cons y .nil) env).bind fun p => (Pd.frzs p.2 p.1).bind fun q => match q.2[i]? with
      | some (.ow ds) => (f ds q.1).bind fun r => some (.va r.2, q.2.set i (.ow r.1))
      | some (.io ds) => (f ds q.1).bind fun r => some (.va r.2, q.2.set i (.io r.1))
      | _ => none else none) : VOk P w K mg base Γ lv c (.Call (.Attribute (.Name x pp) m ap) [a] [] pos) ir := by
  obtain ⟨ta, a1, a2⟩ := ha
  refine ⟨tBM K "list" r (tVar i) (tCons ta tNil), ?_, fun X O => ?_⟩
  · rw [hir]
    exact ok_mut hr (ok_cons a1 ok_nil)
  · have z := pe_bm (cpos := pos) (apos := ap) PySem.F.plainAttrs_list hslot hty (hm X O.hK) (O.var (pos := pp) hs) (pa_c hp (a2 X O) pa_nil) rfl (by rw [star_all X.env pos hp]; rfl) hl (star_cons X.env hp) (any_c pos hp)
    rw [O.hK] at z
    exact z
theorem o_pop0 {x : Str} {i : Nat} {pp ap pos : Pos} (hs : slot c x = some i) (hl : (ap.endLine == pos.line) = true) : VOk P w K mg base Γ lv c (.Call (.Attribute (.Name x pp) "pop" ap) [] [] pos) (.mut .pop i .nil) := by
  refine ⟨tBM0 K "list" _ (tVar i), ok_mut0 (Γ := Γ) mut_pop, fun X O => ?_⟩
  have z := pe_bm0 (cpos := pos) (apos := ap) PySem.F.plainAttrs_list PySem.F.slot_list_pop PySem.F.type_list_pop (MtR.or (X := X) mt_pop mt_popAt) (O.var (pos := pp) hs) rfl hl
  rw [O.hK] at z
  exact z
theorem o_count {x : Str} {i : Nat} {a : Expr} {y : Ex} {pp ap pos : Pos} (hs : slot c x = some i) (hp : plainArgs [a] = true) (hl : (ap.endLine == pos.line) = true) (ha : VOk P w K mg base Γ lv c a y) : VOk P w K mg base Γ lv c (.Call (.Attribute (.Name x pp) "count" ap) [a] [] pos) (.mth .count (.var i) y) := by
  obtain ⟨ta, a1, a2⟩ := ha
  refine ⟨tBM K "list" (rCntI K) (tVar i) (tCons ta tNil), ok_lcount (fa := evE Γ (.var i)) ok_var a1, fun X O => ?_⟩
  have z := pe_bm (cpos := pos) (apos := ap) PySem.F.plainAttrs_list PySem.F.slot_list_count PySem.F.type_list_count (mt_lcount (X := X)) (O.var (pos := pp) hs) (pa_c hp (a2 X O) pa_nil) rfl (by rw [star_all X.env pos hp]; rfl) hl (star_cons X.env hp) (any_c pos hp)
  rw [O.hK] at z
  exact z
end
end Pd

/-! the reading is right: comprehensions, sources, targets -/
namespace Pd
open PySem PySem.Spec PyProof.Rows L2

section
variable {P : Program} {w : World} {K : PySem.W.Frag} {mg : Str → Option Value} {base : Heap} {Γ : Tab} {lv : Nat} {c : CC} {X : Cx}
theorem XO.blk {scope : Scope} {own : List (Str × Nat)} {s : Shared} {H : Hp} {C : Addr} {cl : List (Str × Addr)} {fp : List Addr} (O : XO P w K mg base Γ lv c X) (ok : BlkOk c.N c.sc scope own) :
    XO P w K mg base Γ lv (inC c scope) (X.blk s H scope (compEnvC scope cl C X.env) fp) := by
  refine ⟨O.hP, O.hw, O.hK, O.hm, O.hb, O.N, O.nd, ?_, O.calm, O.guards, O.room, rfl, fun y _ h2 => ?_, ⟨O.go.bi, O.go.fns, O.go.glb⟩⟩
  · show relS scope X.env.scope = relS scope c.sc
    rw [O.sc]
  · show (scope.names.lookup y == some NameKind.cell) = true
    have h2 : ((scope.names.filter fun p => p.2 == .cell).map (·.1)).contains y = true := h2
    rw [List.contains_iff_mem, List.mem_map] at h2
    obtain ⟨p, hp, e⟩ := h2
    obtain ⟨hp1, hp2⟩ := List.mem_filter.mp hp
    have u := ok.uniq p hp1
    have e2 : p.2 = .cell := eq_of_beq hp2
    rw [e, e2] at u
    rw [u]
    rfl
theorem noSet_pure {iter : Expr} (h : noSet iter = true) (env : Env) : ∀ x, foldedSetIterable iter env x = pure x := by
  intro x
  cases iter <;> first | rfl | cases h
theorem zip_snd : ∀ (xs : List Str) (ns : List Nat), xs.length = ns.length → (xs.zip ns).map (·.2) = ns
  | [], [], _ => rfl
  | x :: xs, n :: ns, h => by
    rw [List.zip_cons_cons, List.map_cons, zip_snd xs ns (by simpa using h)]
  | [], _ :: _, h => by cases h
  | _ :: _, [], h => by cases h
/-- what a comprehension is made of -/
theorem o_lc {elt tg iter : Expr} {ifs : List Expr} {scope : Scope} {pos : Pos} {xs : List Str} {own : List Nat} {s : Src} {t : Tg} {ts : Exs} {x : Ex} (hbk : blkC c.N c.sc scope (xs.zip own) = true) (hl : xs.length = own.length) (hn : ifs.length ≤ 1) (hns : noSet iter = true)
    (hix : (tgIx t).all (own.contains ·) = true) (hs : SOk P w K mg base Γ lv c iter tg s) (hg : GOk P w K mg base Γ lv (inC c scope) tg t) (ht : TsOk P w K mg base Γ lv (inC c scope) ifs ts) (he : VOk P w K mg base Γ lv (inC c scope) elt x) :
    VOk P w K mg base Γ lv c (.ListComp elt [⟨tg, iter, ifs, 0⟩] scope pos) (.comp x t s ts own) := by
  obtain ⟨wi, s1, s2⟩ := hs
  obtain ⟨g, g1, g2⟩ := hg
  obtain ⟨tt, t1, t2⟩ := ht hn
  obtain ⟨te, e1, e2⟩ := he
  have bk := blkOk_by hbk
  have hix' : ∀ i ∈ tgIx t, i ∈ own := fun i hi => by
    have := List.all_eq_true.mp hix i hi
    simpa using this
  refine ⟨tLc wi g tt te own, ok_lc s1 g1 hix' t1 e1, fun X O => ?_⟩
  have z := pe_lc (elt := elt) (tg := tg) (iter := iter) (ifs := ifs) (scope := scope) (own := xs.zip own) (pos := pos) O.calm (by rw [O.N]; exact O.nd) (s2 X O) (by rw [O.N, O.sc]; exact bk)
    (fun s H C cl fp => g2 _ (O.blk bk)) (fun s H C cl fp => t2 _ (O.blk bk)) (fun s H C cl fp => e2 _ (O.blk bk)) (noSet_pure hns X.env)
  rw [zip_snd xs own hl] at z
  exact z
/-- name = [..] -/
theorem o_setLc {elt tg iter : Expr} {ifs : List Expr} {scope : Scope} {pos py spos : Pos} {xs : List Str} {own : List Nat} {s : Src} {t : Tg} {ts : Exs} {x : Ex} (hbk : blkC c.N c.sc scope (xs.zip own) = true) (hl : xs.length = own.length) (hn : ifs.length ≤ 1) (hns : noSet iter = true)
    (hix : (tgIx t).all (own.contains ·) = true) (hs : SOk P w K mg base Γ lv c iter tg s) (hg : GOk P w K mg base Γ lv (inC c scope) tg t) (ht : TsOk P w K mg base Γ lv (inC c scope) ifs ts) (he : VOk P w K mg base Γ lv (inC c scope) elt x) {y : Str} {i : Nat} (hy : c.N[i]? = some y) (hyl : c.sc.names.lookup y = some .local)
    (hsw : ∀ env : Env, env.scope = c.sc → swapsWith (.ListComp elt [⟨tg, iter, ifs, 0⟩] scope pos) (some (.Name y py)) spos.line env = pure true) :
    ∃ te, TEok K te (evE Γ (.comp x t s ts own)) ∧ ∀ X, XO P w K mg base Γ lv c X → PS X (.Assign [.Name y py] (.ListComp elt [⟨tg, iter, ifs, 0⟩] scope pos) spos) (tAsg te (gName i)) := by
  obtain ⟨wi, s1, s2⟩ := hs
  obtain ⟨g, g1, g2⟩ := hg
  obtain ⟨tt, t1, t2⟩ := ht hn
  obtain ⟨te, e1, e2⟩ := he
  have bk := blkOk_by hbk
  have hix' : ∀ i ∈ tgIx t, i ∈ own := fun i hi => by
    have := List.all_eq_true.mp hix i hi
    simpa using this
  refine ⟨tLc wi g tt te own, ok_lc s1 g1 hix' t1 e1, fun X O => ?_⟩
  have z := ps_setLc (elt := elt) (tg := tg) (iter := iter) (ifs := ifs) (scope := scope) (own := xs.zip own) (pos := pos) (spos := spos) (py := py) (y := y) (i := i) O.calm (by rw [O.N]; exact O.nd) (by rw [O.N]; exact hy) (by rw [O.sc]; exact hyl) (hsw X.env O.sc) (s2 X O) (by rw [O.N, O.sc]; exact bk)
    (fun s H C cl fp => g2 _ (O.blk bk)) (fun s H C cl fp => t2 _ (O.blk bk)) (fun s H C cl fp => e2 _ (O.blk bk)) (noSet_pure hns X.env)
  rw [zip_snd xs own hl] at z
  exact z

/-! sources -/
theorem o_srcE {e tg : Expr} {x : Ex} (h : VOk P w K mg base Γ lv c e x) : SOk P w K mg base Γ lv c e tg (.ex x) := by
  obtain ⟨t, h1, h2⟩ := h
  refine ⟨_, ok_srcEx h1, fun X O => ?_⟩
  have z := pi_or (pi_list (tg := tg) (h2 X O)) (pi_tup (tg := tg) (h2 X O))
  rw [O.hK] at z
  exact z
theorem o_srcR {es : List Expr} {irs : Exs} {tg : Expr} {p pos : Pos} (hg : isGl c ("range" : Str) = true) (hp : plainArgs es = true) (hl : 1 ≤ es.length ∧ es.length ≤ 3) (h : AOk P w K mg base Γ lv c es irs) : SOk P w K mg base Γ lv c (.Call (.Name "range" p) es [] pos) tg (.rng irs) := by
  obtain ⟨t, h1, h2, h3, _⟩ := h
  refine ⟨iRngD es.length t, ok_srcRng h1 h3, fun X O => ?_⟩
  have ha := (h2 X O).1 hp
  match es, hl, hp, ha with
  | [a], _, hp, ha => exact pi_range1 (O.gl hg) (O.bi (by decide)) ha (star_cons X.env hp)
  | [a, b], _, hp, ha => exact pi_range2 (O.gl hg) (O.bi (by decide)) ha (by rw [star_cons X.env hp, star_cons X.env (plainArgs_cons hp)]; rfl) (star_cons X.env (plainArgs_cons hp))
  | [a, b, d], _, hp, ha => exact pi_range3 (O.gl hg) (O.bi (by decide)) ha (star_cons X.env hp) (star_any X.env _ (plainArgs_cons hp))
  | [], hl, _, _ => exact absurd hl.1 (by decide)
  | _ :: _ :: _ :: _ :: _, hl, _, _ => exact absurd hl.2 (by simp)
theorem o_srcN {a : Expr} {x : Ex} {elts : List Expr} {kk : Nat} {tpos p pos : Pos} (hg : isGl c ("enumerate" : Str) = true) (hp : plainArgs [a] = true) (h : VOk P w K mg base Γ lv c a x) : SOk P w K mg base Γ lv c (.Call (.Name "enumerate" p) [a] [] pos) (.Tuple elts kk tpos) (.enum x) := by
  obtain ⟨t, h1, h2⟩ := h
  refine ⟨_, ok_srcEnumA h1, fun X O => ?_⟩
  have z := pi_enumA (p := p) (pos := pos) (elts := elts) (kk := kk) (tpos := tpos) (O.gl hg) (O.bi (by decide)) (pa_c hp (h2 X O) pa_nil) (star_cons X.env hp)
  rw [O.hK] at z
  exact z
theorem o_srcZ {a b : Expr} {x y : Ex} {elts : List Expr} {kk : Nat} {tpos p pos : Pos} (hg : isGl c ("zip" : Str) = true) (hp : plainArgs [a, b] = true) (ha : VOk P w K mg base Γ lv c a x) (hb : VOk P w K mg base Γ lv c b y) : SOk P w K mg base Γ lv c (.Call (.Name "zip" p) [a, b] [] pos) (.Tuple elts kk tpos) (.zip x y) := by
  obtain ⟨t, h1, h2⟩ := ha
  obtain ⟨t', h1', h2'⟩ := hb
  refine ⟨_, ok_srcZip h1 h1', fun X O => ?_⟩
  have z := RZ.pi_zipA (p := p) (pos := pos) (elts := elts) (kk := kk) (tpos := tpos) (O.gl hg) (O.bi (by decide)) (pa_c hp (h2 X O) (pa_c (plainArgs_cons hp) (h2' X O) pa_nil)) (star_cons X.env hp) (star_any X.env _ (plainArgs_cons hp))
  rw [O.hK] at z
  exact z

/-! targets -/
theorem o_tgN {x : Str} {i : Nat} {pos : Pos} (h : slotS c x = some i) : GOk P w K mg base Γ lv c (.Name x pos) (.nm i) := ⟨gName i, ok_tgName, fun X O => O.tg h⟩
theorem asg_plain (env : Env) : ∀ es : List Expr, plainArgs es = true → assignEach es env = es.map fun e => (false, assign e env)
  | [], _ => rfl
  | e :: es, h => by
    have h1 : plainArgs es = true ∧ assignEach (e :: es) env = (false, assign e env) :: assignEach es env := by
      cases e <;> first | exact ⟨h, rfl⟩ | (simp [plainArgs] at h)
    rw [h1.2, asg_plain env es h1.1]
    rfl
theorem find_none {β : Type} (f : Expr → β) : ∀ es : List Expr, (es.map fun e => (false, f e)).findIdx? (·.1) = none := fun es => by
  rw [List.findIdx?_eq_none_iff]
  intro x hx
  obtain ⟨e, _, rfl⟩ := List.mem_map.mp hx
  rfl
theorem o_tgT {es : List Expr} {ts : Tgs} {k : Nat} {pos : Pos} (hp : plainArgs es = true) (h : GsOk P w K mg base Γ lv c es ts) : GOk P w K mg base Γ lv c (.Tuple es k pos) (.tp ts) := by
  obtain ⟨t, h1, h2, h3⟩ := h
  refine ⟨gTup K es.length t, ?_, fun X O => ?_⟩
  · intro R G0 G H env σ tmp v d env' Q S hns r e q
    refine ok_tgTup h1 h3 R G0 G H env σ tmp v d env' Q S hns r ?_ q
    cases d <;> first | exact e | cases e
  · have z := pg_tup (k := k) (pos := pos) (n := es.length) O.calm (h2 X O hp) (by rw [asg_plain X.env es hp, List.length_map]) (by rw [asg_plain X.env es hp]; exact find_none _ es)
    rw [O.hK] at z
    exact z
theorem asg_sub {o i : Expr} {pos : Pos} (env : Env) (h : ∀ l u s p, i ≠ .Slice l u s p) : ∀ v, assign (.Subscript o i pos) env v = (do
      let ov ← holding [v] (eval o env)
      let iv ← holding [v, ov] (eval i env)
      standAt pos
      holding [v, ov, iv] (setItem ov iv v)
      release [v, ov, iv] []) := by
  intro v
  cases i <;> first | rfl | exact absurd rfl (h _ _ _ _)
theorem o_tgS {x : Str} {i : Nat} {ix : Expr} {y : Ex} {p pos : Pos} (hi : ∀ l u s p, ix ≠ .Slice l u s p) (hs : slot c x = some i) (h : VOk P w K mg base Γ lv c ix y) : GOk P w K mg base Γ lv c (.Subscript (.Name x p) ix pos) (.sb i y) := by
  obtain ⟨t, h1, h2⟩ := h
  refine ⟨_, ok_tgSub h1, fun X O => ?_⟩
  exact pg_sub (O.var (pos := p) hs) (h2 X O) set_list (asg_sub X.env hi)
theorem o_tgNil : GsOk P w K mg base Γ lv c [] .nil := by
  refine ⟨gNil, ?_, fun X O _ => pgs_nil, fun ds e e' h => ?_⟩
  · intro R G0 G H env σ tmp vs ds env' Q S hn r e q
    refine ok_tgNil R G0 G H env σ tmp vs ds env' Q S hn r ?_ q
    cases ds <;> first | exact e | cases e
  · cases ds with
    | nil => rfl
    | cons _ _ => cases h
theorem o_tgCons {e : Expr} {es : List Expr} {t : Tg} {ts : Tgs} (h : GOk P w K mg base Γ lv c e t) (hs : GsOk P w K mg base Γ lv c es ts) : GsOk P w K mg base Γ lv c (e :: es) (.cons t ts) := by
  obtain ⟨g, g1, g2⟩ := h
  obtain ⟨gs, s1, s2, s3⟩ := hs
  refine ⟨gCons g gs, ?_, fun X O hp => ?_, fun ds e e' h => ?_⟩
  · intro R G0 G H env σ tmp vs ds env' Q S hn r e q
    refine ok_tgCons g1 s1 R G0 G H env σ tmp vs ds env' Q S hn r ?_ q
    cases ds <;> first | exact e | cases e
  · refine pgs_cons (g2 X O) (s2 X O (plainArgs_cons hp)) ?_
    rw [asg_plain X.env _ hp, asg_plain X.env _ (plainArgs_cons hp)]
    rfl
  · cases ds with
    | nil => cases h
    | cons d ds =>
      have h : (asgT Γ t d e).bind (fun e => asgTs Γ ts ds e) = some e' := h
      rw [Option.bind_eq_some_iff] at h
      obtain ⟨e1, _, h⟩ := h
      show ds.length + 1 = es.length + 1
      rw [s3 _ _ _ h]
end
end Pd

/-! the reading is right: the induction -/
namespace Pd
open PySem PySem.Spec PyProof.Rows L2

section
variable (P : Program) (w : World) (K : PySem.W.Frag) (mg : Str → Option Value) (base : Heap) (Γ : Tab) (lv : Nat)
structure IH (n : Nat) : Prop where
  e : ∀ c e ir, GO P w K mg base c Γ lv → cE n c e = some ir → EOk P w K mg base Γ lv c e ir
  bl : ∀ c op es p ir, GO P w K mg base c Γ lv → cBl n c op es p = some ir → BOk P w K mg base Γ lv c (.BoolOp op es p) ir
  cmp : ∀ c a op b ir pos, GO P w K mg base c Γ lv → cCmp n c a op b = some ir → EOk P w K mg base Γ lv c (.Compare a [op] [b] pos) ir
  sub : ∀ c a i ir pos, GO P w K mg base c Γ lv → cSub n c a i = some ir → VOk P w K mg base Γ lv c (.Subscript a i pos) ir
  lc : ∀ c elt tg iter ifs scope ir pos, GO P w K mg base c Γ lv → cLc n c elt tg iter ifs scope = some ir → VOk P w K mg base Γ lv c (.ListComp elt [⟨tg, iter, ifs, 0⟩] scope pos) ir ∧
    ∀ (y : Str) (i : Nat) (py spos : Pos), c.N[i]? = some y → c.sc.names.lookup y = some .local → (∀ env : Env, env.scope = c.sc → swapsWith (.ListComp elt [⟨tg, iter, ifs, 0⟩] scope pos) (some (.Name y py)) spos.line env = pure true) →
      ∃ te, TEok K te (evE Γ ir) ∧ ∀ X, XO P w K mg base Γ lv c X → PS X (.Assign [.Name y py] (.ListComp elt [⟨tg, iter, ifs, 0⟩] scope pos) spos) (tAsg te (gName i))
  nm : ∀ c f args kws ir p pos, GO P w K mg base c Γ lv → isGl c f = true → plainArgs args = true → cNm n c f args kws = some ir → VOk P w K mg base Γ lv c (.Call (.Name f p) args kws pos) ir
  rg : ∀ c tp bs ir p p2 pos pos2, GO P w K mg base c Γ lv → isGl c (if tp then ("tuple" : Str) else ("list" : Str)) = true → isGl c ("range" : Str) = true → plainArgs bs = true → cRg n c tp bs = some ir →
    VOk P w K mg base Γ lv c (.Call (.Name (if tp then ("tuple" : Str) else ("list" : Str)) p) [.Call (.Name "range" p2) bs [] pos2] [] pos) ir
  mt : ∀ c x m args ir p ap pos, GO P w K mg base c Γ lv → plainArgs args = true → (ap.endLine == pos.line) = true → cMt n c x m args = some ir → VOk P w K mg base Γ lv c (.Call (.Attribute (.Name x p) m ap) args [] pos) ir
  es : ∀ c es irs, GO P w K mg base c Γ lv → cEs n c es = some irs → AOk P w K mg base Γ lv c es irs ∧ TsOk P w K mg base Γ lv c es irs
  o : ∀ c e ir, GO P w K mg base c Γ lv → cO n c e = some ir → OOk P w K mg base Γ lv c e ir
  call : ∀ c f args kws ir p pos, GO P w K mg base c Γ lv → isGl c f = true → plainArgs args = true → cCall n c f args kws = some ir → VOk P w K mg base Γ lv c (.Call (.Name f p) args kws pos) ir
  src : ∀ c e tg ir, GO P w K mg base c Γ lv → cSrc n c e tg = some ir → SOk P w K mg base Γ lv c e tg ir
  t : ∀ c e ir, GO P w K mg base c Γ lv → cT n c e = some ir → GOk P w K mg base Γ lv c e ir
  ts : ∀ c es irs, GO P w K mg base c Γ lv → cTs n c es = some irs → GsOk P w K mg base Γ lv c es irs
end
section
variable {P : Program} {w : World} {K : PySem.W.Frag} {mg : Str → Option Value} {base : Heap} {Γ : Tab} {lv : Nat}
theorem EOk.v {c : CC} {e : Expr} {ir : Ex} (h : EOk P w K mg base Γ lv c e ir) : VOk P w K mg base Γ lv c e ir := h.1
theorem ih_zero : IH P w K mg base Γ lv 0 where
  e := fun c e ir G h => by cases h
  bl := fun c op es p ir G h => by cases h
  cmp := fun c a op b ir pos G h => by cases h
  sub := fun c a i ir pos G h => by cases h
  lc := fun c elt tg iter ifs scope ir pos G h => by cases h
  nm := fun c f args kws ir p pos G hg hp h => by cases h
  rg := fun c tp bs ir p p2 pos pos2 G hg hr hp h => by cases h
  mt := fun c x m args ir p ap pos G hp hl h => by cases h
  es := fun c es irs G h => by cases h
  o := fun c e ir G h => by cases h
  call := fun c f args kws ir p pos G hg hp h => by cases h
  src := fun c e tg ir G h => by cases h
  t := fun c e ir G h => by cases h
  ts := fun c es irs G h => by cases h
theorem ih_e {n : Nat} (I : IH P w K mg base Γ lv n) (c : CC) (e : Expr) (ir : Ex) (G : GO P w K mg base c Γ lv) (h : cE (n + 1) c e = some ir) : EOk P w K mg base Γ lv c e ir := by
  cases e with
  | Constant v k pos =>
    simp only [cE, Option.bind_eq_some_iff] at h
    obtain ⟨d, hd, e⟩ := h
    cases e
    exact (o_cst hd).e rfl
  | Name x pos =>
    simp only [cE] at h
    exact (o_var G h).e rfl
  | BinOp a op b pos =>
    simp only [cE, Option.bind_eq_some_iff] at h
    obtain ⟨o, ho, x, hx, y, hy, e⟩ := h
    cases e
    exact (o_bin ho (I.e c a x G hx).v (I.e c b y G hy).v).e rfl
  | UnaryOp op a pos =>
    cases op with
    | USub =>
      simp only [cE, Option.bind_eq_some_iff] at h
      obtain ⟨x, hx, e⟩ := h
      cases e
      exact (o_neg (I.e c a x G hx).v).e rfl
    | Not =>
      simp only [cE, Option.bind_eq_some_iff] at h
      obtain ⟨x, hx, e⟩ := h
      cases e
      exact o_not (I.e c a x G hx)
    | _ => simp [cE] at h
  | BoolOp op es pos =>
    simp only [cE] at h
    exact (I.bl c op es pos ir G h).e
  | IfExp d a b pos =>
    simp only [cE, Option.bind_eq_some_iff] at h
    obtain ⟨z, hz, x, hx, y, hy, e⟩ := h
    cases e
    exact o_ite (I.e c d z G hz) (I.e c a x G hx) (I.e c b y G hy)
  | Compare a ops bs pos =>
    simp only [cE] at h
    split at h
    · exact I.cmp c a _ _ ir pos G h
    · simp only [Option.bind_eq_some_iff] at h
      obtain ⟨o, ho, o', ho', x, hx, y, hy, z, hz, e⟩ := h
      cases e
      exact o_chn ho ho' (I.e c a x G hx).v (I.e c _ y G hy).v (I.e c _ z G hz).v
    · cases h
  | List es pos =>
    simp only [cE] at h
    split at h
    · rename_i hp
      simp only [Option.bind_eq_some_iff] at h
      obtain ⟨xs, hx, e⟩ := h
      cases e
      exact (o_lst (I.es c es xs G hx).1 hp).e rfl
    · cases h
  | Tuple es k pos =>
    simp only [cE] at h
    split at h
    · rename_i hp
      simp only [Option.bind_eq_some_iff] at h
      obtain ⟨xs, hx, e⟩ := h
      cases e
      exact (o_tup (I.es c es xs G hx).1 hp).e rfl
    · cases h
  | Subscript a i pos =>
    simp only [cE] at h
    exact (I.sub c a i ir pos G h).e rfl
  | ListComp elt gs scope pos =>
    simp only [cE] at h
    split at h
    · exact (I.lc c elt _ _ _ scope ir pos G h).1.e rfl
    · cases h
  | Call f args kws pos =>
    simp only [cE] at h
    split at h
    · split at h
      · rename_i hg
        rw [Bool.and_eq_true] at hg
        exact (I.nm c _ args kws ir _ pos G hg.1 hg.2 h).e rfl
      · cases h
    · split at h
      · split at h
        · rename_i hg
          rw [Bool.and_eq_true] at hg
          exact (I.mt c _ _ args ir _ _ pos G hg.1 hg.2 h).e rfl
        · cases h
      · cases h
    · cases h
  | _ => simp [cE] at h
theorem ih_bl {n : Nat} (I : IH P w K mg base Γ lv n) (c : CC) (op : BoolOp) (es : List Expr) (p : Pos) (ir : Ex) (G : GO P w K mg base c Γ lv) (h : cBl (n + 1) c op es p = some ir) : BOk P w K mg base Γ lv c (.BoolOp op es p) ir := by
  match es, h with
  | [], h => simp [cBl] at h
  | [a], h =>
    simp only [cBl] at h
    exact o_bl1 (I.e c a ir G h)
  | a :: b :: r, h =>
    cases op with
    | And =>
      simp only [cBl, Option.bind_eq_some_iff] at h
      obtain ⟨x, hx, y, hy, e⟩ := h
      cases e
      exact o_and (I.e c a x G hx) (I.bl c _ _ _ y G hy)
    | Or =>
      simp only [cBl, Option.bind_eq_some_iff] at h
      obtain ⟨x, hx, y, hy, e⟩ := h
      cases e
      exact o_or (I.e c a x G hx) (I.bl c _ _ _ y G hy)
theorem ih_cmp {n : Nat} (I : IH P w K mg base Γ lv n) (c : CC) (a : Expr) (op : CmpOp) (b : Expr) (ir : Ex) (pos : Pos) (G : GO P w K mg base c Γ lv) (h : cCmp (n + 1) c a op b = some ir) : EOk P w K mg base Γ lv c (.Compare a [op] [b] pos) ir := by
  unfold cCmp at h
  split at h
  · split at h
    · simp only [Option.bind_eq_some_iff] at h
      obtain ⟨x, hx, e⟩ := h
      cases e
      exact o_isN (ng := false) (I.e c a x G hx).v
    · simp only [Option.bind_eq_some_iff] at h
      obtain ⟨x, hx, e⟩ := h
      cases e
      exact o_isB (ng := false) (I.e c a x G hx).v
    · cases h
  · split at h
    · simp only [Option.bind_eq_some_iff] at h
      obtain ⟨x, hx, e⟩ := h
      cases e
      exact o_isN (ng := true) (I.e c a x G hx).v
    · simp only [Option.bind_eq_some_iff] at h
      obtain ⟨x, hx, e⟩ := h
      cases e
      exact o_isB (ng := true) (I.e c a x G hx).v
    · cases h
  · split at h
    · cases h
    · rename_i hb
      simp only [Option.bind_eq_some_iff] at h
      obtain ⟨x, hx, y, hy, e⟩ := h
      cases e
      exact o_inn (ng := false) (by simpa using hb) (I.e c a x G hx).v (I.e c b y G hy).v
  · split at h
    · cases h
    · rename_i hb
      simp only [Option.bind_eq_some_iff] at h
      obtain ⟨x, hx, y, hy, e⟩ := h
      cases e
      exact o_inn (ng := true) (by simpa using hb) (I.e c a x G hx).v (I.e c b y G hy).v
  · simp only [Option.bind_eq_some_iff] at h
    obtain ⟨o, ho, x, hx, y, hy, e⟩ := h
    cases e
    exact o_cmp ho (I.e c a x G hx).v (I.e c b y G hy).v
theorem ih_sub {n : Nat} (I : IH P w K mg base Γ lv n) (c : CC) (a i : Expr) (ir : Ex) (pos : Pos) (G : GO P w K mg base c Γ lv) (h : cSub (n + 1) c a i = some ir) : VOk P w K mg base Γ lv c (.Subscript a i pos) ir := by
  unfold cSub at h
  split at h
  · split at h
    · simp only [Option.bind_eq_some_iff] at h
      obtain ⟨x, hx, l, hl, u, hu, e⟩ := h
      cases e
      exact o_slc (I.e c a x G hx).v (I.o c _ l G hl) (I.o c _ u G hu)
    · split at h
      · simp only [Option.bind_eq_some_iff] at h
        obtain ⟨x, hx, e⟩ := h
        cases e
        exact o_rev (I.e c a x G hx).v
      · cases h
    · cases h
  · rename_i hi
    simp only [Option.bind_eq_some_iff] at h
    obtain ⟨x, hx, y, hy, e⟩ := h
    cases e
    exact o_idx hi (I.e c a x G hx).v (I.e c i y G hy).v
theorem ih_lc {n : Nat} (I : IH P w K mg base Γ lv n) (c : CC) (elt tg iter : Expr) (ifs : List Expr) (scope : Scope) (ir : Ex) (pos : Pos) (G : GO P w K mg base c Γ lv) (h : cLc (n + 1) c elt tg iter ifs scope = some ir) :
    VOk P w K mg base Γ lv c (.ListComp elt [⟨tg, iter, ifs, 0⟩] scope pos) ir ∧
    ∀ (y : Str) (i : Nat) (py spos : Pos), c.N[i]? = some y → c.sc.names.lookup y = some .local → (∀ env : Env, env.scope = c.sc → swapsWith (.ListComp elt [⟨tg, iter, ifs, 0⟩] scope pos) (some (.Name y py)) spos.line env = pure true) →
      ∃ te, TEok K te (evE Γ ir) ∧ ∀ X, XO P w K mg base Γ lv c X → PS X (.Assign [.Name y py] (.ListComp elt [⟨tg, iter, ifs, 0⟩] scope pos) spos) (tAsg te (gName i)) := by
  unfold cLc at h
  simp only [Option.bind_eq_some_iff] at h
  obtain ⟨xs, hxs, own, hown, h⟩ := h
  split at h
  · rename_i hb
    simp only [Bool.and_eq_true, decide_eq_true_eq] at hb
    obtain ⟨⟨⟨b1, b2⟩, b3⟩, b4⟩ := hb
    simp only [Option.bind_eq_some_iff] at h
    obtain ⟨s, hs, t, ht, ts, hts, x, hx, h⟩ := h
    split at h
    · rename_i hix
      cases h
      have G' : GO P w K mg base (inC c scope) Γ lv := ⟨G.bi, G.fns, G.glb⟩
      have q1 := I.src c iter tg s G hs
      have q2 := I.t (inC c scope) tg t G' ht
      have q3 := (I.es (inC c scope) ifs ts G' hts).2
      have q4 := (I.e (inC c scope) elt x G' hx).v
      exact ⟨o_lc b1 b2 b3 b4 hix q1 q2 q3 q4, fun y i py spos hy hyl hsw => o_setLc b1 b2 b3 b4 hix q1 q2 q3 q4 hy hyl hsw⟩
    · cases h
  · cases h
theorem ih_rg {n : Nat} (I : IH P w K mg base Γ lv n) (c : CC) (tp : Bool) (bs : List Expr) (ir : Ex) (p p2 pos pos2 : Pos) (G : GO P w K mg base c Γ lv) (hg : isGl c (if tp then ("tuple" : Str) else ("list" : Str)) = true) (hr : isGl c ("range" : Str) = true) (hp : plainArgs bs = true) (h : cRg (n + 1) c tp bs = some ir) :
    VOk P w K mg base Γ lv c (.Call (.Name (if tp then ("tuple" : Str) else ("list" : Str)) p) [.Call (.Name "range" p2) bs [] pos2] [] pos) ir := by
  unfold cRg at h
  split at h
  · simp only [Option.bind_eq_some_iff] at h
    obtain ⟨x, hx, e⟩ := h
    cases e
    exact o_rg1 hg hr hp (I.e c _ x G hx).v
  · simp only [Option.bind_eq_some_iff] at h
    obtain ⟨x, hx, y, hy, e⟩ := h
    cases e
    exact o_rg2 hg hr hp (I.e c _ x G hx).v (I.e c _ y G hy).v
  · cases h
theorem ih_nm {n : Nat} (I : IH P w K mg base Γ lv n) (c : CC) (f : Str) (args : List Expr) (kws : List Keyword) (ir : Ex) (p pos : Pos) (G : GO P w K mg base c Γ lv) (hg : isGl c f = true) (hp : plainArgs args = true) (h : cNm (n + 1) c f args kws = some ir) :
    VOk P w K mg base Γ lv c (.Call (.Name f p) args kws pos) ir := by
  unfold cNm at h
  split at h
  · rename_i hf
    have hf := eq_of_beq hf
    subst hf
    split at h
    · split at h
      · rename_i hgt
        simp only [Option.bind_eq_some_iff] at h
        obtain ⟨ty, hty, x, hx, e⟩ := h
        cases e
        exact o_isi1 hg hgt hty hp (I.e c _ x G hx).v
      · cases h
    · simp only [Option.bind_eq_some_iff] at h
      obtain ⟨tys, hty, x, hx, e⟩ := h
      cases e
      exact o_isiT hg hty hp (I.e c _ x G hx).v
    · cases h
  · split at h
    · split at h
      · rename_i hf
        have hf := eq_of_beq hf
        subst hf
        split at h
        · rename_i hp2
          simp only [Option.bind_eq_some_iff] at h
          obtain ⟨xs, hx, e⟩ := h
          cases e
          exact o_reprL hg hp2 (I.es c _ xs G hx).1
        · cases h
      · exact I.call c f _ _ ir p pos G hg hp h
    · rename_i g p2 bs pos2
      have rg : ∀ (tp : Bool), f = (if tp then ("tuple" : Str) else ("list" : Str)) → g = ("range" : Str) → (if isGl c g && plainArgs bs then cRg n c tp bs else none) = some ir → VOk P w K mg base Γ lv c (.Call (.Name f p) [.Call (.Name g p2) bs [] pos2] [] pos) ir := by
        intro tp e1 e2 h3
        subst e1
        subst e2
        by_cases hb : (isGl c ("range" : Str) && plainArgs bs) = true
        · rw [if_pos hb] at h3
          rw [Bool.and_eq_true] at hb
          exact I.rg c tp bs ir p p2 pos pos2 G hg hb.1 hb.2 h3
        · rw [if_neg hb] at h3
          cases h3
      split at h
      · rename_i hf
        rw [Bool.and_eq_true] at hf
        exact rg false (eq_of_beq hf.1) (eq_of_beq hf.2) h
      · split at h
        · rename_i hf
          rw [Bool.and_eq_true] at hf
          exact rg true (eq_of_beq hf.1) (eq_of_beq hf.2) h
        · exact I.call c f _ _ ir p pos G hg hp h
    · exact I.call c f _ _ ir p pos G hg hp h
theorem ih_mt {n : Nat} (I : IH P w K mg base Γ lv n) (c : CC) (x m : Str) (args : List Expr) (ir : Ex) (p ap pos : Pos) (G : GO P w K mg base c Γ lv) (hp : plainArgs args = true) (hl : (ap.endLine == pos.line) = true) (h : cMt (n + 1) c x m args = some ir) :
    VOk P w K mg base Γ lv c (.Call (.Attribute (.Name x p) m ap) args [] pos) ir := by
  unfold cMt at h
  simp only [Option.bind_eq_some_iff] at h
  obtain ⟨i, hs, h⟩ := h
  split at h
  · split at h
    · rename_i hm
      have hm := eq_of_beq hm
      subst hm
      cases h
      exact o_pop0 hs hl
    · cases h
  · simp only [Option.bind_eq_some_iff] at h
    obtain ⟨y, hy, h⟩ := h
    have hv := (I.e c _ y G hy).v
    split at h
    · rename_i hm
      have hm := eq_of_beq hm
      subst hm
      cases h
      exact o_bm hs PySem.F.slot_list_append PySem.F.type_list_append (fun X _ => mt_append) hp hl mut_append hv _ (by funext env; rw [evE] <;> rfl)
    · split at h
      · rename_i hm
        have hm := eq_of_beq hm
        subst hm
        cases h
        exact o_bm hs PySem.F.slot_list_extend PySem.F.type_list_extend (fun X _ => mt_extend) hp hl mut_extend hv _ (by funext env; rw [evE] <;> rfl)
      · split at h
        · rename_i hm
          have hm := eq_of_beq hm
          subst hm
          cases h
          exact o_bm hs PySem.F.slot_list_pop PySem.F.type_list_pop (fun X _ => MtR.or (X := X) mt_pop mt_popAt) hp hl mut_pop hv _ (by funext env; rw [evE] <;> rfl)
        · split at h
          · rename_i hm
            have hm := eq_of_beq hm
            subst hm
            cases h
            exact o_count hs hp hl hv
          · cases h
  · cases h
theorem ih_es {n : Nat} (I : IH P w K mg base Γ lv n) (c : CC) (es : List Expr) (irs : Exs) (G : GO P w K mg base c Γ lv) (h : cEs (n + 1) c es = some irs) : AOk P w K mg base Γ lv c es irs ∧ TsOk P w K mg base Γ lv c es irs := by
  cases es with
  | nil =>
    simp only [cEs] at h
    cases h
    refine ⟨⟨tNil, ok_nil, fun X O => ⟨fun _ => pa_nil, fun kws hk => ?_⟩, fun env p hp => by cases hp; rfl, fun _ => rfl⟩, fun _ => ⟨tYes, ?_, fun X O => pts_nil⟩⟩
    · cases kws with
      | nil => exact pk_nil
      | cons k r =>
        obtain ⟨nm, v, kp⟩ := k
        have hk : v :: kwVals r = [] := hk
        cases hk
    · intro R G0 G H env σ tmp b env' Q S e q
      cases e
      exact q G H (Same.refl _) S
  | cons e es =>
    simp only [cEs, Option.bind_eq_some_iff] at h
    obtain ⟨x, hx, xs, hxs, e2⟩ := h
    cases e2
    obtain ⟨⟨t, h1, h2⟩, tt, h3, h4⟩ := I.e c e x G hx
    obtain ⟨⟨ts, s1, s2, s3, s4⟩, s5⟩ := I.es c es xs G hxs
    refine ⟨⟨tCons t ts, ok_cons h1 s1, fun X O => ⟨fun hp => pa_c hp (h2 X O) ((s2 X O).1 (plainArgs_cons hp)), fun kws hk => ?_⟩, fun env p hp => ?_, fun hn => by cases hn⟩, fun hl => ?_⟩
    · cases kws with
      | nil => cases hk
      | cons k r =>
        obtain ⟨nm, v, kp⟩ := k
        have hk : v :: kwVals r = e :: es := hk
        cases hk
        exact pk_cons (h2 X O) ((s2 X O).2 r rfl)
    · rw [evEs] at hp
      simp only [Option.bind_eq_some_iff] at hp
      obtain ⟨p1, q1, p2, q2, e⟩ := hp
      cases e
      show p2.1.length + 1 = es.length + 1
      rw [s3 _ _ q2]
    · have hn : es = [] := List.length_eq_zero_iff.mp (by simpa using hl)
      subst hn
      refine ⟨tt, ?_, fun X O => pts_one (h4 X O)⟩
      have hxs : xs = .nil := by
        cases n with
        | zero => cases hxs
        | succ m =>
          simp only [cEs] at hxs
          cases hxs
          rfl
      subst hxs
      intro R G0 G H env σ tmp b env' Q S e q
      refine h3 R G0 G H env σ tmp b env' Q S ?_ q
      rw [evAll] at e
      simp only [Option.bind_eq_some_iff] at e
      obtain ⟨p1, q1, k, hk, e⟩ := e
      unfold fT
      simp only [Option.bind_eq_some_iff]
      refine ⟨p1, q1, k, hk, ?_⟩
      cases k <;> exact e
theorem ih_o {n : Nat} (I : IH P w K mg base Γ lv n) (c : CC) (e : Option Expr) (ir : Eo) (G : GO P w K mg base c Γ lv) (h : cO (n + 1) c e = some ir) : OOk P w K mg base Γ lv c e ir := by
  cases e with
  | none =>
    simp only [cO] at h
    cases h
    exact ⟨_, ok_no, fun X O => po_none⟩
  | some e =>
    simp only [cO, Option.bind_eq_some_iff] at h
    obtain ⟨x, hx, e2⟩ := h
    cases e2
    obtain ⟨t, h1, h2⟩ := (I.e c e x G hx).v
    exact ⟨_, ok_part h1, fun X O => po_some (h2 X O)⟩
theorem ih_call {n : Nat} (I : IH P w K mg base Γ lv n) (c : CC) (f : Str) (args : List Expr) (kws : List Keyword) (ir : Ex) (p pos : Pos) (G : GO P w K mg base c Γ lv) (hg : isGl c f = true) (hp : plainArgs args = true) (h : cCall (n + 1) c f args kws = some ir) :
    VOk P w K mg base Γ lv c (.Call (.Name f p) args kws pos) ir := by
  unfold cCall at h
  split at h
  · rename_i k g hf
    simp only [Option.bind_eq_some_iff] at h
    obtain ⟨ks, hk, pm, hs, xs, hx, ys, hy, e⟩ := h
    cases e
    exact o_fn G hf hk hs hg hp (I.es c args xs G hx).1 (I.es c (kwVals kws) ys G hy).1
  · split at h
    · simp only [Option.bind_eq_some_iff] at h
      obtain ⟨b, hb, h⟩ := h
      split at h
      · cases h
      · rename_i hne
        simp only [Option.bind_eq_some_iff] at h
        obtain ⟨xs, hx, e⟩ := h
        cases e
        exact o_bi hb hg hp hne (I.es c args xs G hx).1
    · cases h
theorem ih_src {n : Nat} (I : IH P w K mg base Γ lv n) (c : CC) (e tg : Expr) (ir : Src) (G : GO P w K mg base c Γ lv) (h : cSrc (n + 1) c e tg = some ir) : SOk P w K mg base Γ lv c e tg ir := by
  have gen : ∀ e, (cE n c e).bind (fun x => some (Src.ex x)) = some ir → SOk P w K mg base Γ lv c e tg ir := fun e h => by
    simp only [Option.bind_eq_some_iff] at h
    obtain ⟨x, hx, e2⟩ := h
    cases e2
    exact o_srcE (I.e c e x G hx).v
  unfold cSrc at h
  split at h
  · split at h
    · rename_i hg
      rw [Bool.and_eq_true] at hg
      obtain ⟨hg, hp⟩ := hg
      split at h
      · rename_i hf
        have hf := eq_of_beq hf
        subst hf
        split at h
        · rename_i hl
          have hl := of_decide_eq_true hl
          simp only [Option.bind_eq_some_iff] at h
          obtain ⟨xs, hx, e⟩ := h
          cases e
          exact o_srcR hg hp hl (I.es c _ xs G hx).1
        · cases h
      · split at h
        · rename_i hf
          have hf := eq_of_beq hf
          subst hf
          split at h
          · simp only [Option.bind_eq_some_iff] at h
            obtain ⟨x, hx, e⟩ := h
            cases e
            exact o_srcN hg hp (I.e c _ x G hx).v
          · cases h
        · split at h
          · rename_i hf
            have hf := eq_of_beq hf
            subst hf
            split at h
            · simp only [Option.bind_eq_some_iff] at h
              obtain ⟨x, hx, y, hy, e⟩ := h
              cases e
              exact o_srcZ hg hp (I.e c _ x G hx).v (I.e c _ y G hy).v
            · cases h
          · exact gen _ h
    · cases h
  · exact gen _ h
theorem ih_t {n : Nat} (I : IH P w K mg base Γ lv n) (c : CC) (e : Expr) (ir : Tg) (G : GO P w K mg base c Γ lv) (h : cT (n + 1) c e = some ir) : GOk P w K mg base Γ lv c e ir := by
  unfold cT at h
  split at h
  · simp only [Option.bind_eq_some_iff] at h
    obtain ⟨i, hi, e⟩ := h
    cases e
    exact o_tgN hi
  · split at h
    · rename_i hp
      simp only [Option.bind_eq_some_iff] at h
      obtain ⟨ts, hts, e⟩ := h
      cases e
      exact o_tgT hp (I.ts c _ ts G hts)
    · cases h
  · cases h
  · rename_i hn
    simp only [Option.bind_eq_some_iff] at h
    obtain ⟨i, hi, y, hy, e⟩ := h
    cases e
    exact o_tgS (fun l u s p z => by subst z; simp at hn; exact hn _ _ _ _ rfl rfl rfl rfl) hi (I.e c _ y G hy).v
  · cases h
theorem ih_ts {n : Nat} (I : IH P w K mg base Γ lv n) (c : CC) (es : List Expr) (irs : Tgs) (G : GO P w K mg base c Γ lv) (h : cTs (n + 1) c es = some irs) : GsOk P w K mg base Γ lv c es irs := by
  cases es with
  | nil =>
    simp only [cTs] at h
    cases h
    exact o_tgNil
  | cons e es =>
    simp only [cTs, Option.bind_eq_some_iff] at h
    obtain ⟨t, ht, ts, hts, e2⟩ := h
    cases e2
    exact o_tgCons (I.t c e t G ht) (I.ts c es ts G hts)
theorem ih_all : ∀ n : Nat, IH P w K mg base Γ lv n
  | 0 => ih_zero
  | n + 1 => by
    have I := ih_all n
    exact ⟨ih_e I, ih_bl I, ih_cmp I, ih_sub I, ih_lc I, ih_nm I, ih_rg I, ih_mt I, ih_es I, ih_o I, ih_call I, ih_src I, ih_t I, ih_ts I⟩
end
end Pd

/-! statements -/
namespace Pd
open PySem PySem.Spec PyProof.Rows L2

def TSok (K : PySem.W.Frag) (t : TS) (f : EnvD → Option Out) : Prop :=
  ∀ (R : RR) (G0 G H : Hp) (env : EnvD) (σ : L2.St) (out : Out) (D : Ends), SR K R G0 G H env σ [] → f env = some out →
    (∀ env' σ' G' H', out = .nx env' → Same G G' → SR K R G0 G' H' env' σ' [] → D.nx σ' H') →
    (∀ r env' v σ' G' H', out = .rt r env' → Same G G' → SR K R G0 G' H' env' σ' [(r.opd, v)] → D.rt v H') → t D σ H
theorem noSl_nil : NoSl [] := fun p hp => by cases hp
section
variable {K : PySem.W.Frag} {R : RR} {G0 G H : Hp} {env env' : EnvD} {σ : L2.St} {tmp : Tmp} {o : Opd} {v : V} {d : PyData}

theorem sk_next : TSok K tNext (fun env => some (.nx env)) := by
  intro R G0 G H env σ out D S e qn qr
  cases e
  exact qn _ _ G H rfl (Same.refl _) S
theorem sk_seq {t u : TS} {f g : EnvD → Option Out} (h1 : TSok K t f) (h2 : TSok K u g) : TSok K (tSeq t u) (fun env => (f env).bind fun o => match o with
    | .nx e => g e
    | .rt r e => some (.rt r e)) := by
  intro R G0 G H env σ out D S e qn qr
  rw [Option.bind_eq_some_iff] at e
  obtain ⟨o1, e1, e⟩ := e
  refine h1 R G0 G H env σ o1 _ S e1 (fun env' σ' G' H' ho g1 S1 => ?_) fun r env' v σ' G' H' ho g1 S1 => ?_
  · subst ho
    exact h2 R G0 G' H' env' σ' out D S1 e (fun env2 σ2 G2 H2 ho g2 S2 => qn env2 σ2 G2 H2 ho (g1.trans g2) S2) fun r env2 v σ2 G2 H2 ho g2 S2 => qr r env2 v σ2 G2 H2 ho (g1.trans g2) S2
  · subst ho
    cases e
    exact qr r env' v σ' G' H' rfl g1 S1
theorem sk_drop {te : TE} {f : EnvD → Option (Opd × EnvD)} (h : TEok K te f) : TSok K (tDrop te) (fun env => (f env).bind fun p => some (.nx p.2)) := by
  intro R G0 G H env σ out D S e qn qr
  rw [Option.bind_eq_some_iff] at e
  obtain ⟨⟨o, e1⟩, h1, e⟩ := e
  cases e
  exact h _ _ _ _ _ _ _ _ _ _ S h1 fun v G1 H1 g1 S1 => qn _ _ G1 H1 rfl g1 S1.pop
theorem SR.putAny {i : Nat} (S : SR K R G0 G H env σ [(o, v)]) (hi : i < env.length) (ho : ∀ j, o ≠ .sl j) : SR K R G0 G H (env.set i o.cell) (σ.set i (some v)) [] := S.store noSl_nil hi ho
theorem sk_asg {i : Nat} {mv : Bool} {te : TE} {f : EnvD → Option (Opd × EnvD)} (h : TEok K te f) : TSok K (tAsg te (gName i)) (fun env => (f env).bind fun p => if i < p.2.length then (match p.1 with
    | .sl j => match mv with
      | false => (Pd.frz p.2 (.sl j)).bind fun q => some (.nx (q.2.set i (.va q.1)))
      | true => match p.2[j]? with
        | some (.ow ds) => some (.nx ((p.2.set j .no).set i (.ow ds)))
        | _ => none
    | .va d => some (.nx (p.2.set i (.va d)))
    | .ow ds => some (.nx (p.2.set i (.ow ds)))) else none) := by
  intro R G0 G H env σ out D S e qn qr
  rw [Option.bind_eq_some_iff] at e
  obtain ⟨⟨o, e1⟩, h1, e⟩ := e
  refine h _ _ _ _ _ _ _ _ _ _ S h1 fun v G1 H1 g1 S1 => ?_
  split at e
  · rename_i hi
    cases o with
    | va d =>
      cases e
      exact qn _ _ G1 H1 rfl g1 (S1.putAny hi fun j z => by cases z)
    | ow ds =>
      cases e
      exact qn _ _ G1 H1 rfl g1 (S1.putAny hi fun j z => by cases z)
    | sl j =>
      cases mv with
      | false =>
        dsimp only at e
        rw [Option.bind_eq_some_iff] at e
        obtain ⟨⟨d, e2⟩, h2, e⟩ := e
        cases e
        obtain ⟨G2, g2, S2, r⟩ := S1.frz h2
        have hl : i < e2.length := by
          have z1 := S1.len
          have z2 := S2.len
          have hi : i < e1.length := hi
          omega
        exact qn _ _ G2 H1 rfl (g1.trans g2) ((S2.pushVa r).putAny hl fun j z => by cases z)
      | true =>
        dsimp only at e
        split at e
        · rename_i ds hj
          cases e
          have S2 := S1.move hj
          exact qn _ _ G1 H1 rfl g1 (S2.putAny (by rw [List.length_set]; exact hi) fun j z => by cases z)
        · cases e
  · cases e
theorem sk_asgT {te : TE} {g : TG} {ix : List Nat} {f : EnvD → Option (Opd × EnvD)} {ft : PyData → EnvD → Option EnvD} (h : TEok K te f) (hg : TGok K g ix ft) : TSok K (tAsg te g) (fun env => (f env).bind fun p => (Pd.frz p.2 p.1).bind fun q => (ft q.1 q.2).bind fun e => some (.nx e)) := by
  intro R G0 G H env σ out D S e qn qr
  simp only [Option.bind_eq_some_iff] at e
  obtain ⟨⟨o, e1⟩, h1, ⟨d, e2⟩, h2, e3, h3, e⟩ := e
  cases e
  refine h _ _ _ _ _ _ _ _ _ _ S h1 fun v G1 H1 g1 S1 => ?_
  obtain ⟨G2, g2, S2, r⟩ := S1.frz h2
  exact hg _ _ _ _ _ _ _ _ _ _ _ S2 noSl_nil r h3 fun σ' G' H' g3 w S3 => qn _ _ G' H' rfl (g1.trans (g2.trans g3)) S3
theorem sk_ret {te : TE} {f : EnvD → Option (Opd × EnvD)} (h : TEok K te f) : TSok K (tRet te) (fun env => (f env).bind fun p => match p.1 with
    | .va d => some (.rt (.va d) p.2)
    | .ow ds => some (.rt (.ow ds) p.2)
    | .sl j => match p.2[j]? with
      | some (.ow ds) => some (.rt (.ow ds) (p.2.set j .no))
      | _ => none) := by
  intro R G0 G H env σ out D S e qn qr
  rw [Option.bind_eq_some_iff] at e
  obtain ⟨⟨o, e1⟩, h1, e⟩ := e
  refine h _ _ _ _ _ _ _ _ _ _ S h1 fun v G1 H1 g1 S1 => ?_
  cases o with
  | va d =>
    cases e
    exact qr _ _ v σ G1 H1 rfl g1 S1
  | ow ds =>
    cases e
    exact qr _ _ v σ G1 H1 rfl g1 S1
  | sl j =>
    dsimp only at e
    split at e
    · rename_i ds hj
      cases e
      exact qr _ _ v σ G1 H1 rfl g1 (S1.move hj)
    · cases e
theorem sk_retN : TSok K tRetN (fun env => some (.rt (.va .none) env)) := by
  intro R G0 G H env σ out D S e qn qr
  cases e
  exact qr _ _ _ σ G H rfl (Same.refl _) (S.pushVa .non)
theorem sk_if {tc : TT} {t u : TS} {fc : EnvD → Option (Opd × EnvD)} {f g : EnvD → Option Out} (hc : TTok K tc (fT fc)) (h1 : TSok K t f) (h2 : TSok K u g) : TSok K (tIfS tc t u) (fun env => (fc env).bind fun p => (truth p.1).bind fun t => match t with
    | true => f p.2
    | false => g p.2) := by
  intro R G0 G H env σ out D S e qn qr
  simp only [Option.bind_eq_some_iff] at e
  obtain ⟨⟨o, e1⟩, hh, t, ht, e⟩ := e
  have z1 : fT fc env = some (t, e1) := by
    unfold fT
    simp only [Option.bind_eq_some_iff]
    exact ⟨_, hh, t, ht, rfl⟩
  refine hc _ _ _ _ _ _ _ _ _ _ S z1 fun G1 H1 g1 S1 => ?_
  cases t with
  | true => exact h1 R G0 G1 H1 e1 σ out D S1 e (fun env2 σ2 G2 H2 ho g2 S2 => qn env2 σ2 G2 H2 ho (g1.trans g2) S2) fun r env2 v σ2 G2 H2 ho g2 S2 => qr r env2 v σ2 G2 H2 ho (g1.trans g2) S2
  | false => exact h2 R G0 G1 H1 e1 σ out D S1 e (fun env2 σ2 G2 H2 ho g2 S2 => qn env2 σ2 G2 H2 ho (g1.trans g2) S2) fun r env2 v σ2 G2 H2 ho g2 S2 => qr r env2 v σ2 G2 H2 ho (g1.trans g2) S2
theorem sk_whl {n : Nat} {tc : TT} {t : TS} {fc : EnvD → Option (Opd × EnvD)} {f : EnvD → Option Out} (hc : TTok K tc (fT fc)) (h1 : TSok K t f) : TSok K (tWhile tc t) (fun env => whlL (fun e => (fc e).bind fun p => (truth p.1).bind fun t => some (t, p.2)) f n env) := by
  intro R G0 G H env σ out D S e qn qr
  refine ⟨fun m σ H => ∃ G' env', Same G G' ∧ SR K R G0 G' H env' σ [] ∧ whlL (fun e => (fc e).bind fun p => (truth p.1).bind fun t => some (t, p.2)) f m env' = some out, ⟨n, G, env, Same.refl _, S, e⟩, ?_⟩
  rintro m σ1 H1 ⟨G1, env1, g1, S1, e1⟩
  cases m with
  | zero => cases e1
  | succ m =>
    unfold whlL at e1
    rw [Option.bind_eq_some_iff] at e1
    obtain ⟨⟨b, e2⟩, z1, e1⟩ := e1
    refine hc _ _ _ _ _ _ _ _ _ _ S1 z1 fun G2 H2 g2 S2 => ?_
    cases b with
    | true =>
      rw [if_pos rfl]
      dsimp only at e1
      rw [Option.bind_eq_some_iff] at e1
      obtain ⟨o3, z3, e1⟩ := e1
      refine ⟨fun σ' H' => ∃ G' env', Same G G' ∧ SR K R G0 G' H' env' σ' [] ∧ whlL (fun e => (fc e).bind fun p => (truth p.1).bind fun t => some (t, p.2)) f m env' = some out, fun σ' H' z => ⟨m, Nat.lt_succ_self m, z⟩, ?_⟩
      refine h1 R G0 G2 H2 e2 σ1 o3 _ S2 z3 (fun env3 σ3 G3 H3 ho g3 S3 => ?_) fun r env3 v σ3 G3 H3 ho g3 S3 => ?_
      · subst ho
        exact ⟨G3, env3, g1.trans (g2.trans g3), S3, e1⟩
      · subst ho
        cases e1
        exact qr r env3 v σ3 G3 H3 rfl (g1.trans (g2.trans g3)) S3
    | false =>
      rw [if_neg Bool.false_ne_true]
      cases e1
      exact qn _ _ G2 H2 rfl (g1.trans g2) S2
theorem sk_for {wi : TI} {g : TG} {ix : List Nat} {t : TS} {fs : EnvD → Option (List PyData × EnvD)} {ft : PyData → EnvD → Option EnvD} {f : EnvD → Option Out} (hs : TIok K wi fs) (hg : TGok K g ix ft) (h1 : TSok K t f) :
    TSok K (tFor wi g t) (fun env => (fs env).bind fun p => forL ft f p.1 p.2) := by
  intro R G0 G H env σ out D S e qn qr
  rw [Option.bind_eq_some_iff] at e
  obtain ⟨⟨ds, e1⟩, z1, e⟩ := e
  refine hs _ _ _ _ _ _ _ _ _ _ S z1 fun J G1 H1 g1 S1 ok => ?_
  refine ⟨fun i m σ H => m = ds.length - i ∧ i ≤ ds.length ∧ ∃ G' env', Same G1 G' ∧ SR K R G0 G' H env' σ [] ∧ forL ft f (ds.drop i) env' = some out, ⟨ds.length, rfl, Nat.zero_le _, G1, e1, Same.refl _, S1, by rw [List.drop_zero]; exact e⟩, ?_⟩
  rintro i m σ2 H2 ⟨rfl, hi, G2, env2, g2, S2, e2⟩
  by_cases hlt : i < ds.length
  · refine .inr ⟨ok.go i H2 (g2.trans S2.gh) hlt, fun σ' H' => ∃ G' env', Same G1 G' ∧ SR K R G0 G' H' env' σ' [] ∧ forL ft f (ds.drop (i + 1)) env' = some out, fun σ' H' z => ⟨ds.length - (i + 1), by omega, rfl, hlt, z⟩, fun x H' y => ?_⟩
    rw [List.drop_eq_getElem_cons hlt] at e2
    unfold forL at e2
    simp only [Option.bind_eq_some_iff] at e2
    obtain ⟨e3, z3, o4, z4, e2⟩ := e2
    obtain ⟨G3, g3, S3, r3⟩ := S2.yld g2 ok (d := ds[i]) (List.getElem?_eq_getElem hlt) y
    refine hg _ _ _ _ _ _ _ _ _ _ _ S3 noSl_nil r3 z3 fun σ4 G4 H4 g4 w4 S4 => ?_
    refine h1 R G0 G4 H4 e3 σ4 o4 _ S4 z4 (fun env5 σ5 G5 H5 ho g5 S5 => ?_) fun r env5 v σ5 G5 H5 ho g5 S5 => ?_
    · subst ho
      exact ⟨G5, env5, g2.trans (g3.trans (g4.trans g5)), S5, e2⟩
    · subst ho
      cases e2
      exact qr r env5 v σ5 G5 H5 rfl (g1.trans (g2.trans (g3.trans (g4.trans g5)))) S5
  · have hd : ds.drop i = [] := List.drop_eq_nil_of_le (by omega)
    rw [hd] at e2
    cases e2
    exact .inl ⟨ok.stop i H2 (g2.trans S2.gh) (by omega), qn _ _ G2 H2 rfl (g1.trans g2) S2⟩

/-! several names at once -/
theorem frzSl_ok : ∀ (os : List Opd) (vs : List V) (G : Hp) (env : EnvD) (os' : List Opd) (env' : EnvD), SR K R G0 G H env σ (os.zip vs ++ tmp) → os.length = vs.length → frzSl env os = some (os', env') → ∃ G', Same G G' ∧ os'.length = vs.length ∧ SR K R G0 G' H env' σ (os'.zip vs ++ tmp) ∧ ∀ o ∈ os', ∀ j, o ≠ .sl j := by
  intro os
  induction os generalizing tmp with
  | nil =>
    intro vs G env os' env' S hl h
    cases h
    exact ⟨G, Same.refl _, hl, S, fun o ho => by cases ho⟩
  | cons o os ih =>
    intro vs G env os' env' S hl h
    cases vs with
    | nil => cases hl
    | cons v vs =>
      have go : ∀ (G1 : Hp) (o1 : Opd) (env1 : EnvD), Same G G1 → (∀ j, o1 ≠ .sl j) → SR K R G0 G1 H env1 σ ((o1, v) :: (os.zip vs ++ tmp)) → ∀ q, frzSl env1 os = some q → os' = o1 :: q.1 → env' = q.2 → ∃ G', Same G G' ∧ os'.length = (v :: vs).length ∧ SR K R G0 G' H env' σ (os'.zip (v :: vs) ++ tmp) ∧ ∀ o ∈ os', ∀ j, o ≠ .sl j := by
        intro G1 o1 env1 g1 n1 S1 q hq e1 e2
        subst e1
        subst e2
        have S2 : SR K R G0 G1 H env1 σ (os.zip vs ++ ((o1, v) :: tmp)) := S1.perm List.perm_middle.symm
        obtain ⟨G2, g2, l2, S3, n2⟩ := ih vs G1 env1 q.1 q.2 S2 (by simpa using hl) hq
        refine ⟨G2, g1.trans g2, by simp [l2], S3.perm List.perm_middle, fun o ho => ?_⟩
        rcases List.mem_cons.mp ho with z | z
        · subst z
          exact n1
        · exact n2 o z
      cases o with
      | va d =>
        have h : (frzSl env os).bind (fun q => some (Opd.va d :: q.1, q.2)) = some (os', env') := h
        rw [Option.bind_eq_some_iff] at h
        obtain ⟨q, hq, e⟩ := h
        cases e
        exact go G (.va d) env (Same.refl _) (fun j z => by cases z) S q hq rfl rfl
      | ow ds =>
        have h : (frzSl env os).bind (fun q => some (Opd.ow ds :: q.1, q.2)) = some (os', env') := h
        rw [Option.bind_eq_some_iff] at h
        obtain ⟨q, hq, e⟩ := h
        cases e
        exact go G (.ow ds) env (Same.refl _) (fun j z => by cases z) S q hq rfl rfl
      | sl i =>
        have h : (Pd.frz env (.sl i)).bind (fun p => (frzSl p.2 os).bind fun q => some (Opd.va p.1 :: q.1, q.2)) = some (os', env') := h
        simp only [Option.bind_eq_some_iff] at h
        obtain ⟨p, hp, q, hq, e⟩ := h
        cases e
        obtain ⟨G1, g1, S1, r1⟩ := S.frz hp
        exact go G1 (.va p.1) p.2 g1 (fun j z => by cases z) (S1.pushVa r1) q hq rfl rfl
/-- σ with several names stored -/
def setAllV : List Nat → List V → L2.St → L2.St
  | i :: is, v :: vs, σ => setAllV is vs (σ.set i (some v))
  | _, _, σ => σ
theorem setAll_ok : ∀ (is : List Nat) (os : List Opd) (vs : List V) (env : EnvD) (σ : L2.St) (env' : EnvD), SR K R G0 G H env σ (os.zip vs ++ []) → os.length = vs.length → (∀ o ∈ os, ∀ j, o ≠ .sl j) → setAll is os env = some env' → is.length = vs.length ∧ SR K R G0 G H env' (setAllV is vs σ) [] := by
  intro is
  induction is with
  | nil =>
    intro os vs env σ env' S hl hn h
    cases os with
    | nil =>
      cases h
      cases vs with
      | nil => exact ⟨rfl, S⟩
      | cons _ _ => cases hl
    | cons _ _ => cases h
  | cons i is ih =>
    intro os vs env σ env' S hl hn h
    cases os with
    | nil => cases h
    | cons o os =>
      cases vs with
      | nil => cases hl
      | cons v vs =>
        unfold setAll at h
        split at h
        · rename_i hi
          have ns : NoSl (os.zip vs ++ []) := fun p hp j e => by
            rw [List.append_nil] at hp
            exact hn p.1 (List.mem_cons_of_mem _ (List.of_mem_zip hp).1) j e
          have S1 := S.store (tmp := os.zip vs ++ []) ns hi (hn o List.mem_cons_self)
          obtain ⟨l, S2⟩ := ih os vs _ _ _ S1 (by simpa using hl) (fun o ho => hn o (List.mem_cons_of_mem _ ho)) h
          exact ⟨by simp [l], S2⟩
        · cases h
/-- the pair is not tracked: two or three names, stored from behind -/
def tParN (is : List Nat) (ta : TA) : TS := match is with
  | [i, j] => tPar i j ta
  | [i, j, l] => tPar3 i j l ta
  | _ => fun _ _ _ => False
theorem sk_par {is : List Nat} {ta : TA} {f : EnvD → Option (List Opd × EnvD)} (h2 : is.length = 2 ∨ is.length = 3) (h : TAok K ta f) : TSok K (tParN is ta) (fun env => (f env).bind fun p => (frzSl p.2 p.1).bind fun q => (setAll is q.1 q.2).bind fun e => some (.nx e)) := by
  intro R G0 G H env σ out D S e qn qr
  simp only [Option.bind_eq_some_iff] at e
  obtain ⟨⟨os, e1⟩, z1, ⟨os', e2⟩, z2, e3, z3, e⟩ := e
  cases e
  have main : ∀ (vs : List V) (G1 H1 : Hp), os.length = vs.length → Same G G1 → SR K R G0 G1 H1 e1 σ (os.zip vs ++ []) → is.length = vs.length ∧ D.nx (setAllV is vs σ) H1 := fun vs G1 H1 l1 g1 S1 => by
    obtain ⟨G2, g2, l2, S2, n2⟩ := frzSl_ok os vs G1 e1 os' e2 S1 l1 z2
    obtain ⟨l3, S3⟩ := setAll_ok is os' vs e2 σ e3 S2 l2 n2 z3
    exact ⟨l3, qn _ _ G2 H1 rfl (g1.trans g2) S3⟩
  match is, h2, main with
  | [i, j], _, main =>
    refine h _ _ _ _ _ _ _ _ _ _ S z1 fun vs G1 H1 l1 g1 S1 => ?_
    obtain ⟨l, q⟩ := main vs G1 H1 l1 g1 S1
    match vs, l, q with
    | [v, w], _, q => exact ⟨v, w, rfl, q⟩
    | [], l, _ => cases l
    | [_], l, _ => cases l
    | _ :: _ :: _ :: _, l, _ => simp at l
  | [i, j, l], _, main =>
    refine h _ _ _ _ _ _ _ _ _ _ S z1 fun vs G1 H1 l1 g1 S1 => ?_
    obtain ⟨l, q⟩ := main vs G1 H1 l1 g1 S1
    match vs, l, q with
    | [u, v, w], _, q => exact ⟨u, v, w, rfl, q⟩
    | [], l, _ => cases l
    | [_], l, _ => cases l
    | [_, _], l, _ => cases l
    | _ :: _ :: _ :: _ :: _, l, _ => simp at l
  | [], h2, _ => exact absurd h2 (by decide)
  | [_], h2, _ => exact absurd h2 (by simp)
  | _ :: _ :: _ :: _ :: _, h2, _ => exact absurd h2 (by simp)
def gNames : List Nat → TGs
  | [] => gNil
  | i :: is => gCons (gName i) (gNames is)
theorem gNames_ok : ∀ (is : List Nat) (vs : List V) (σ : L2.St) (H : Hp) (Q : L2.St → Hp → Prop), is.length = vs.length → Q (setAllV is vs σ) H → gNames is vs σ H Q
  | [], [], σ, H, Q, _, q => ⟨rfl, q⟩
  | i :: is, v :: vs, σ, H, Q, l, q => ⟨v, vs, rfl, gNames_ok is vs _ H Q (by simpa using l) q⟩
  | [], _ :: _, _, _, _, l, _ => by cases l
  | _ :: _, [], _, _, _, l, _ => by cases l
theorem sk_parT {is : List Nat} {ta : TA} {f : EnvD → Option (List Opd × EnvD)} (h2 : is.length ≤ 100) (h : TAok K ta f) : TSok K (tAsg (tTup ta) (gTup K is.length (gNames is))) (fun env => (f env).bind fun p => (frzSl p.2 p.1).bind fun q => (setAll is q.1 q.2).bind fun e => some (.nx e)) := by
  intro R G0 G H env σ out D S e qn qr
  simp only [Option.bind_eq_some_iff] at e
  obtain ⟨⟨os, e1⟩, z1, ⟨os', e2⟩, z2, e3, z3, e⟩ := e
  cases e
  refine h _ _ _ _ _ _ _ _ _ _ S z1 fun vs G1 H1 l1 g1 S1 => ?_
  obtain ⟨G2, g2, l2, S2, n2⟩ := frzSl_ok os vs G1 e1 os' e2 S1 l1 z2
  obtain ⟨l3, S3⟩ := setAll_ok is os' vs e2 σ e3 S2 l2 n2 z3
  refine ⟨by
    have z : sizeLine = 16777216 := rfl
    omega, fun p hp => ⟨p, vs, rfl, SqT.of upd_same, l3.symm, gNames_ok is vs σ _ _ l3 (qn _ _ G2 _ rfl (g1.trans g2) (S3.grow (same_new hp)))⟩⟩
end
end Pd

/-! the reading is right: statements -/
namespace Pd
open PySem PySem.Spec PyProof.Rows L2

theorem blockKind_fn {env : Env} (h : env.scope.kind = .function) : env.blockKind = .function := by
  unfold Env.blockKind
  rw [h]
  rfl
theorem fnSc {sc : Scope} (h : isFnSc sc = true) : sc.kind = .function := by
  unfold isFnSc at h
  split at h
  · assumption
  · cases h
theorem swapR_ok {env : Env} {ts vs : List Expr} {k k2 : Nat} {p p2 : Pos} {r : Option (List Str)} (hk : env.scope.kind = .function) (h : swapR env.scope ts vs = some r) : swappedStores [.Tuple ts k p] (.Tuple vs k2 p2) env = pure r := by
  have hb := blockKind_fn hk
  unfold swapR at h
  unfold swappedStores
  dsimp only
  have hb' : (env.blockKind != ScopeKind.function) = false := by
    rw [hb]
    rfl
  simp only [hb', Bool.or_false]
  split at h
  · rename_i c1
    cases h
    rw [if_pos c1]
  · rename_i c1
    rw [if_neg c1]
    split at h
    · rename_i c2
      cases h
      exact if_pos c2
    · rename_i c2
      refine (if_neg c2).trans ?_
      dsimp only at h
      split at h
      · rename_i c3
        cases h
        exact if_pos c3
      · rename_i c3
        refine (if_neg c3).trans ?_
        split at h
        · rename_i c4
          cases h
          exact if_pos c4
        · rename_i c4
          refine (if_neg c4).trans ?_
          split at h
          · cases h
          · rename_i c5
            refine (if_neg c5).trans ?_
            cases h
            rfl
theorem two_len {α : Type} {o1 o2 : Option α} : (o1.toList ++ o2.toList).length = 2 → ∃ a b, o1 = some a ∧ o2 = some b := by
  cases o1 <;> cases o2 <;> simp
theorem if_local {sc : Scope} {x : Str} {b : Bool} {y : Str} (h : (if (sc.names.lookup x == some NameKind.local && b) = true then some x else none) = some y) : y = x ∧ sc.names.lookup x = some .local := by
  split at h
  · rename_i c
    cases h
    rw [Bool.and_eq_true] at c
    exact ⟨rfl, eq_of_beq c.1⟩
  · cases h
theorem swapR_len {sc : Scope} {ts vs : List Expr} {ns : List Str} (h : swapR sc ts vs = some (some ns)) : (ts.length = 2 ∨ ts.length = 3) ∧ vs.length = ts.length ∧ ns.length = ts.length ∧ ns = ts.filterMap (fun t => match t with
      | .Name id pos => if (sc.names.lookup id == some NameKind.local && pos.line == (ts.head?.map (·.pos.line)).getD 0) = true then some id else none
      | _ => none) := by
  unfold swapR at h
  split at h
  · cases h
  · rename_i c1
    split at h
    · cases h
    · dsimp only at h
      split at h
      · cases h
      · rename_i c3
        split at h
        · cases h
        · split at h
          · cases h
          · cases h
            simp only [Bool.or_eq_true, Bool.not_eq_true', not_or, bne_iff_ne, ne_eq, Decidable.not_not, beq_iff_eq, Bool.not_eq_false] at c1 c3
            exact ⟨c1.1, c1.2, c3.1, rfl⟩
theorem name_at {sc : Scope} {l : Nat} {ts : List Expr} {xs : List Str} : nameList ts = some xs → (ts.filterMap (fun t => match t with
      | .Name id pos => if (sc.names.lookup id == some NameKind.local && pos.line == l) = true then some id else none
      | _ => none)).length = ts.length → ts.filterMap (fun t => match t with
      | .Name id pos => if (sc.names.lookup id == some NameKind.local && pos.line == l) = true then some id else none
      | _ => none) = xs ∧ ∀ x ∈ xs, sc.names.lookup x = some .local := by
  induction ts generalizing xs with
  | nil =>
    intro h _
    cases h
    exact ⟨rfl, fun x hx => by cases hx⟩
  | cons t ts ih =>
    intro h hl
    cases t with
    | Name x p =>
      have h : (nameList ts).bind (fun xs => some (x :: xs)) = some xs := h
      rw [Option.bind_eq_some_iff] at h
      obtain ⟨ys, h1, e⟩ := h
      cases e
      rw [List.filterMap_cons] at hl ⊢
      dsimp only at hl ⊢
      by_cases c : (sc.names.lookup x == some NameKind.local && p.line == l) = true
      · rw [if_pos c] at hl ⊢
        obtain ⟨e, q⟩ := ih h1 (by simpa using hl)
        refine ⟨by rw [← e], fun y hy => ?_⟩
        rcases List.mem_cons.mp hy with z | z
        · subst z
          rw [Bool.and_eq_true] at c
          exact eq_of_beq c.1
        · exact q y z
      · rw [if_neg c] at hl
        have key : ∀ (f : Expr → Option Str), (ts.filterMap f).length ≤ ts.length := fun f => List.length_filterMap_le f ts
        exact absurd (Nat.le_trans (Nat.le_of_eq hl.symm) (key _)) (by simp)
    | _ => cases h
theorem nameList_eq : ∀ {ts : List Expr} {xs : List Str}, nameList ts = some xs → plainArgs ts = true ∧ ts.length = xs.length ∧ ∀ (i : Nat) (x : Str), xs[i]? = some x → ∃ p, ts[i]? = some (.Name x p)
  | [], xs, h => by
    cases h
    exact ⟨rfl, rfl, fun i x e => by simp at e⟩
  | t :: ts, xs, h => by
    cases t with
    | Name x p =>
      have h : (nameList ts).bind (fun xs => some (x :: xs)) = some xs := h
      rw [Option.bind_eq_some_iff] at h
      obtain ⟨ys, h1, e⟩ := h
      cases e
      obtain ⟨a, b, d⟩ := nameList_eq h1
      refine ⟨a, by simp [b], fun i y e => ?_⟩
      cases i with
      | zero =>
        cases e
        exact ⟨p, rfl⟩
      | succ i => exact d i y e
    | _ => cases h
theorem mapM_slots {c : CC} : ∀ {xs : List Str} {is : List Nat}, xs.mapM (slotS c) = some is → is.length = xs.length ∧ ∀ (i : Nat) (x : Str), xs[i]? = some x → ∃ j, is[i]? = some j ∧ slotS c x = some j
  | [], is, h => by
    simp at h
    subst h
    exact ⟨rfl, fun i x e => by simp at e⟩
  | x :: xs, is, h => by
    rw [List.mapM_cons] at h
    have h : (slotS c x).bind (fun a => (xs.mapM (slotS c)).bind fun r => some (a :: r)) = some is := h
    simp only [Option.bind_eq_some_iff] at h
    obtain ⟨j, h1, js, h2, e⟩ := h
    cases e
    obtain ⟨a, b⟩ := mapM_slots h2
    refine ⟨by simp [a], fun i y e => ?_⟩
    cases i with
    | zero =>
      cases e
      exact ⟨j, rfl, h1⟩
    | succ i => exact b i y e
section
variable (P : Program) (w : World) (K : PySem.W.Frag) (mg : Str → Option Value) (base : Heap) (Γ : Tab) (lv n : Nat)
def StOk (c : CC) (s : Stmt) (ir : Sm) : Prop := ∃ t, TSok K t (exS Γ n ir) ∧ ∀ X, XO P w K mg base Γ lv c X → PS X s t
def StsOk (c : CC) (s : List Stmt) (ir : Sms) : Prop := ∃ t, TSok K t (exSs Γ n ir) ∧ ∀ X, XO P w K mg base Γ lv c X → PSs X s t
end
section
variable {P : Program} {w : World} {K : PySem.W.Frag} {mg : Str → Option Value} {base : Heap} {Γ : Tab} {lv n : Nat} {c : CC}
theorem s_par {ts vs : List Expr} {xs : List Str} {is : List Nat} {irs : Exs} {sw : Option (List Str)} {k k2 : Nat} {p p2 pos : Pos} (hf : isFnSc c.sc = true) (hx : nameList ts = some xs) (hsw : swapR c.sc ts vs = some sw) (hnd : xs.Nodup) (hl : xs.length = vs.length) (h100 : xs.length ≤ 100) (his : xs.mapM (slotS c) = some is) (hp : plainArgs vs = true)
    (h : AOk P w K mg base Γ lv c vs irs) : StOk P w K mg base Γ lv n c (.Assign [.Tuple ts k p] (.Tuple vs k2 p2) pos) (.par is irs) := by
  obtain ⟨ta, h1, h2, h3, _⟩ := h
  obtain ⟨pt, lt, at_⟩ := nameList_eq hx
  obtain ⟨li, ai⟩ := mapM_slots his
  cases sw with
  | none =>
    refine ⟨_, sk_parT (is := is) (by omega) h1, fun X O => ?_⟩
    have gs : ∀ (ts : List Expr) (xs : List Str) (is : List Nat), nameList ts = some xs → xs.mapM (slotS c) = some is → PGs X ts (gNames is) := by
      intro ts
      induction ts with
      | nil =>
        intro xs is h1 h2
        cases h1
        simp at h2
        subst h2
        exact pgs_nil
      | cons t ts ih =>
        intro xs is h1 h2
        have pl := (nameList_eq h1).1
        cases t with
        | Name x q =>
          have h5 : (nameList ts).bind (fun xs => some (x :: xs)) = some xs := h1
          rw [Option.bind_eq_some_iff] at h5
          obtain ⟨ys, h6, e⟩ := h5
          cases e
          rw [List.mapM_cons] at h2
          have h2 : (slotS c x).bind (fun a => (ys.mapM (slotS c)).bind fun r => some (a :: r)) = some is := h2
          simp only [Option.bind_eq_some_iff] at h2
          obtain ⟨j, h3, js, h4, e⟩ := h2
          cases e
          refine pgs_cons (O.tg h3) (ih ys js h6 h4) ?_
          rw [asg_plain X.env _ pl, asg_plain X.env _ (plainArgs_cons pl)]
          rfl
        | _ => cases h1
    have z := pg_tup (k := k) (pos := p) (n := ts.length) O.calm (gs ts xs is hx his) (by rw [asg_plain X.env ts pt, List.length_map]) (by rw [asg_plain X.env ts pt]; exact find_none _ ts)
    rw [O.hK, show ts.length = is.length by omega] at z
    refine ps_asg (pe_tup ((h2 X O).1 hp)) z rfl (swapR_ok (by rw [O.sc]; exact fnSc hf) (by rw [O.sc]; exact hsw)) rfl
  | some ns =>
    obtain ⟨l23, lv', ln, en⟩ := swapR_len hsw
    obtain ⟨en2, hloc⟩ := name_at (sc := c.sc) (l := (ts.head?.map (·.pos.line)).getD 0) hx (by rw [← en]; exact ln)
    have ens : ns = xs := by rw [en, en2]
    subst ens
    refine ⟨tParN is ta, sk_par (by omega) h1, fun X O => ?_⟩
    have hw := swapR_ok (env := X.env) (k := k) (k2 := k2) (p := p) (p2 := p2) (by rw [O.sc]; exact fnSc hf) (by rw [O.sc]; exact hsw)
    have ix : ∀ (i : Nat) (x : Str), ns[i]? = some x → ∃ j, is[i]? = some j ∧ X.N[j]? = some x ∧ X.env.scope.names.lookup x = some .local := fun i x e => by
      obtain ⟨j, e1, e2⟩ := ai i x e
      refine ⟨j, e1, by rw [O.N]; exact (slotS_at e2).1, by rw [O.sc]; exact hloc x (List.mem_of_getElem? e)⟩
    have ne : ∀ {x y : Str} {i j : Nat}, x ≠ y → X.N[i]? = some x → X.N[j]? = some y → i ≠ j := fun hxy e1 e2 e => by
      subst e
      rw [e1] at e2
      exact hxy (Option.some.inj e2)
    have ha := (h2 X O).1 hp
    rcases l23 with l2 | l3
    · match ts, vs, ns, is, l2, lv', lt, li, at_, ix, hnd, ha, hw with
      | [t1, t2], [a, b], [x, y], [i, j], _, _, _, _, at_, ix, hnd, ha, hw =>
        obtain ⟨p1, e1⟩ := at_ 0 x rfl
        obtain ⟨p2', e2⟩ := at_ 1 y rfl
        cases e1
        cases e2
        obtain ⟨i', z1, n1, v1⟩ := ix 0 x rfl
        obtain ⟨j', z2, n2, v2⟩ := ix 1 y rfl
        cases z1
        cases z2
        have hxy : x ≠ y := by
          intro e
          subst e
          simp at hnd
        exact ps_par O.calm (by rw [O.N]; exact O.nd) n1 n2 (ne hxy n1 n2) v1 v2 ha hw rfl
      | [_, _], [_, _], [_, _], [], _, _, _, li, _, _, _, _, _ => simp at li
      | [_, _], [_, _], [_, _], [_], _, _, _, li, _, _, _, _, _ => simp at li
      | [_, _], [_, _], [_, _], _ :: _ :: _ :: _, _, _, _, li, _, _, _, _, _ => simp at li
      | [_, _], [_, _], [], _, _, _, lt, _, _, _, _, _, _ => simp at lt
      | [_, _], [_, _], [_], _, _, _, lt, _, _, _, _, _, _ => simp at lt
      | [_, _], [_, _], _ :: _ :: _ :: _, _, _, _, lt, _, _, _, _, _, _ => simp at lt
      | [_, _], [], _, _, _, lv', _, _, _, _, _, _, _ => simp at lv'
      | [_, _], [_], _, _, _, lv', _, _, _, _, _, _, _ => simp at lv'
      | [_, _], _ :: _ :: _ :: _, _, _, _, lv', _, _, _, _, _, _, _ => simp at lv'
      | [], _, _, _, l2, _, _, _, _, _, _, _, _ => simp at l2
      | [_], _, _, _, l2, _, _, _, _, _, _, _, _ => simp at l2
      | _ :: _ :: _ :: _, _, _, _, l2, _, _, _, _, _, _, _, _ => simp at l2
    · match ts, vs, ns, is, l3, lv', lt, li, at_, ix, hnd, ha, hw with
      | [t1, t2, t3], [a, b, d], [x, y, z], [i, j, l], _, _, _, _, at_, ix, hnd, ha, hw =>
        obtain ⟨p1, e1⟩ := at_ 0 x rfl
        obtain ⟨p2', e2⟩ := at_ 1 y rfl
        obtain ⟨p3', e3⟩ := at_ 2 z rfl
        cases e1
        cases e2
        cases e3
        obtain ⟨i', z1, n1, v1⟩ := ix 0 x rfl
        obtain ⟨j', z2, n2, v2⟩ := ix 1 y rfl
        obtain ⟨l', z3, n3, v3⟩ := ix 2 z rfl
        cases z1
        cases z2
        cases z3
        have hxy : x ≠ y ∧ x ≠ z ∧ y ≠ z := by
          simp only [List.nodup_cons, List.mem_cons, List.not_mem_nil, or_false, not_or] at hnd
          exact ⟨hnd.1.1, hnd.1.2, hnd.2.1⟩
        exact ps_par3 O.calm (by rw [O.N]; exact O.nd) n1 n2 n3 (ne hxy.1 n1 n2) (ne hxy.2.1 n1 n3) (ne hxy.2.2 n2 n3) v1 v2 v3 ha hw rfl
      | [_, _, _], [_, _, _], [_, _, _], [], _, _, _, li, _, _, _, _, _ => simp at li
      | [_, _, _], [_, _, _], [_, _, _], [_], _, _, _, li, _, _, _, _, _ => simp at li
      | [_, _, _], [_, _, _], [_, _, _], [_, _], _, _, _, li, _, _, _, _, _ => simp at li
      | [_, _, _], [_, _, _], [_, _, _], _ :: _ :: _ :: _ :: _, _, _, _, li, _, _, _, _, _ => simp at li
      | [_, _, _], [_, _, _], [], _, _, _, lt, _, _, _, _, _, _ => simp at lt
      | [_, _, _], [_, _, _], [_], _, _, _, lt, _, _, _, _, _, _ => simp at lt
      | [_, _, _], [_, _, _], [_, _], _, _, _, lt, _, _, _, _, _, _ => simp at lt
      | [_, _, _], [_, _, _], _ :: _ :: _ :: _ :: _, _, _, _, lt, _, _, _, _, _, _ => simp at lt
      | [_, _, _], [], _, _, _, lv', _, _, _, _, _, _, _ => simp at lv'
      | [_, _, _], [_], _, _, _, lv', _, _, _, _, _, _, _ => simp at lv'
      | [_, _, _], [_, _], _, _, _, lv', _, _, _, _, _, _, _ => simp at lv'
      | [_, _, _], _ :: _ :: _ :: _ :: _, _, _, _, lv', _, _, _, _, _, _, _ => simp at lv'
      | [], _, _, _, l2, _, _, _, _, _, _, _, _ => simp at l2
      | [_], _, _, _, l2, _, _, _, _, _, _, _, _ => simp at l2
      | [_, _], _, _, _, l2, _, _, _, _, _, _, _, _ => simp at l2
      | _ :: _ :: _ :: _ :: _, _, _, _, l2, _, _, _, _, _, _, _, _ => simp at l2
end
end Pd

/-! the reading is right: blocks -/
namespace Pd
open PySem PySem.Spec PyProof.Rows L2

theorem swaps_no {e : Expr} (h : isComp e = false) (t : Option Expr) (l : Nat) (env : Env) : swapsWith e t l env = pure false := by
  cases e <;> first | rfl | cases h
theorem sw_cell {elt : Expr} {gs : List Comprehension} {scope : Scope} {pos py : Pos} {y : Str} {l : Nat} {env : Env} (hy : env.scope.names.lookup y = some .cell) : swapsWith (.ListComp elt gs scope pos) (some (.Name y py)) l env = pure false := by
  have ky : env.kindOf y = some .cell := hy
  have e1 : (some NameKind.cell == some NameKind.local) = false := by decide
  unfold swapsWith
  simp only [ky, e1, Bool.and_false, Bool.false_and]
section
variable {P : Program} {w : World} {K : PySem.W.Frag} {mg : Str → Option Value} {base : Heap} {Γ : Tab} {lv n : Nat} {c : CC}
theorem XO.loc {X : Cx} (O : XO P w K mg base Γ lv c X) {x : Str} {i : Nat} (h : slotS c x = some i) : X.N.Nodup ∧ X.N[i]? = some x ∧ Loc X.env.scope x ∧ (X.fn x = true ∨ X.env.scope.names.lookup x = some .local) := by
  obtain ⟨h1, h2⟩ := slotS_at h
  refine ⟨by rw [O.N]; exact O.nd, by rw [O.N]; exact h1, ?_, ?_⟩
  · show X.env.scope.names.lookup x = _ ∨ X.env.scope.names.lookup x = _
    rw [O.sc]
    rcases h2 with z | z
    · exact .inl z
    · exact .inr z.1
  · rw [O.sc]
    rcases h2 with z | z
    · exact .inr z
    · exact .inl (O.cell x z.1 z.2)
theorem XO.own {X : Cx} (O : XO P w K mg base Γ lv c X) : PassesOwn (model X.prog X.w) X.A X.env X.xe := by
  rw [O.xe]
  exact PassesOwn.never
theorem s_set {x : Str} {i : Nat} {e : Expr} {y : Ex} {mv : Bool} {p pos : Pos} (hs : slotS c x = some i) (hc : isComp e = false) (h : VOk P w K mg base Γ lv c e y) : StOk P w K mg base Γ lv n c (.Assign [.Name x p] e pos) (.asg i y mv) := by
  obtain ⟨t, h1, h2⟩ := h
  refine ⟨_, sk_asg h1, fun X O => ?_⟩
  obtain ⟨a, b, d, f⟩ := O.loc hs
  exact ps_set a b d (h2 X O) (swaps_no hc _ _ _) f
theorem s_lc {x : Str} {i : Nat} {elt : Expr} {gs : List Comprehension} {scope : Scope} {y : Ex} {p lp pos : Pos} (G : GO P w K mg base c Γ lv) (hs : slotS c x = some i) (hsw : swapOk c x p lp scope = true) (h : cE 60 c (.ListComp elt gs scope lp) = some y) : StOk P w K mg base Γ lv n c (.Assign [.Name x p] (.ListComp elt gs scope lp) pos) (.asg i y false) := by
  simp only [cE] at h
  split at h
  · rename_i tg iter ifs
    obtain ⟨q1, q2⟩ := (ih_all (P := P) (w := w) (K := K) (mg := mg) (base := base) (Γ := Γ) (lv := lv) 59).lc c elt tg iter ifs scope y lp G h
    unfold swapOk at hsw
    rw [Bool.and_eq_true] at hsw
    obtain ⟨hf, hsw⟩ := hsw
    have hf := fnSc hf
    split at hsw
    · rename_i hl
      rw [Bool.and_eq_true] at hsw
      obtain ⟨te, t1, t2⟩ := q2 x i p pos (slotS_at hs).1 hl fun env he => sw_true (by rw [he]; exact hf) (by rw [he]; exact hl) hsw.1 (by simpa using hsw.2)
      exact ⟨_, sk_asg (i := i) (mv := false) t1, t2⟩
    · rename_i hl
      obtain ⟨t, h1, h2⟩ := q1
      refine ⟨_, sk_asg (i := i) (mv := false) h1, fun X O => ?_⟩
      obtain ⟨a, b, d, f⟩ := O.loc hs
      exact ps_set a b d (h2 X O) (sw_cell (by rw [O.sc]; exact hl)) f
    · cases hsw
  · cases h
theorem s_asgT {tg e : Expr} {t : Tg} {y : Ex} {pos : Pos} (hc : isComp e = false) (hw : ∀ env, swappedStores [tg] e env = pure none) (hg : GOk P w K mg base Γ lv c tg t) (h : VOk P w K mg base Γ lv c e y) (h1 : ∀ env : Env, (assignEach [tg] env).map (·.2) = [assign tg env]) : StOk P w K mg base Γ lv n c (.Assign [tg] e pos) (.asgT t y) := by
  obtain ⟨te, a1, a2⟩ := h
  obtain ⟨g, b1, b2⟩ := hg
  exact ⟨_, sk_asgT a1 b1, fun X O => ps_asg (a2 X O) (b2 X O) (swaps_no hc _ _ _) (hw X.env) (h1 X.env)⟩
variable (P w K mg base Γ lv n) in
structure SH (m : Nat) : Prop where
  s : ∀ c s ir, GO P w K mg base c Γ lv → cS m c s = some ir → StOk P w K mg base Γ lv n c s ir
  ss : ∀ c ss irs, GO P w K mg base c Γ lv → cSs m c ss = some irs → StsOk P w K mg base Γ lv n c ss irs
theorem sh_s {m : Nat} (I : SH P w K mg base Γ lv n m) (c : CC) (s : Stmt) (ir : Sm) (G : GO P w K mg base c Γ lv) (h : cS (m + 1) c s = some ir) : StOk P w K mg base Γ lv n c s ir := by
  have E := ih_all (P := P) (w := w) (K := K) (mg := mg) (base := base) (Γ := Γ) (lv := lv) 60
  cases s with
  | Expr e pos =>
    simp only [cS] at h
    split at h
    · cases h
    · rename_i hc
      simp only [Option.bind_eq_some_iff] at h
      obtain ⟨x, hx, e2⟩ := h
      cases e2
      obtain ⟨t, h1, h2⟩ := (E.e c e x G hx).v
      exact ⟨_, sk_drop h1, fun X O => ps_expr (h2 X O) (swaps_no (by simpa using hc) _ _ _)⟩
  | Assign tgs e pos =>
    simp only [cS] at h
    split at h
    · rename_i x p
      simp only [Option.bind_eq_some_iff] at h
      obtain ⟨i, hs, h⟩ := h
      split at h
      · split at h
        · rename_i hsw
          simp only [Option.bind_eq_some_iff] at h
          obtain ⟨y, hy, e2⟩ := h
          cases e2
          exact s_lc G hs hsw hy
        · cases h
      · simp only [Option.bind_eq_some_iff] at h
        obtain ⟨y, hy, e2⟩ := h
        cases e2
        exact s_set hs rfl (E.e c _ y G hy).v
      · split at h
        · cases h
        · rename_i hc
          simp only [Option.bind_eq_some_iff] at h
          obtain ⟨y, hy, e2⟩ := h
          cases e2
          exact s_set hs (by simpa using hc) (E.e c _ y G hy).v
    · rename_i ts k p
      split at h
      · split at h
        · rename_i hf
          rw [Bool.and_eq_true] at hf
          simp only [Option.bind_eq_some_iff] at h
          obtain ⟨xs, hxs, sw, hsw, h⟩ := h
          split at h
          · rename_i hb
            simp only [Bool.and_eq_true, decide_eq_true_eq] at hb
            simp only [Option.bind_eq_some_iff] at h
            obtain ⟨is, his, es, hes, e2⟩ := h
            cases e2
            exact s_par hf.2 hxs hsw hb.1.1 hb.1.2 hb.2 his hf.1 (E.es c _ es G hes).1
          · cases h
        · cases h
      · rename_i hnt
        split at h
        · cases h
        · rename_i hc
          simp only [Option.bind_eq_some_iff] at h
          obtain ⟨t, ht, y, hy, e2⟩ := h
          cases e2
          refine s_asgT (by simpa using hc) (fun env => ?_) (E.t c _ t G ht) (E.e c _ y G hy).v fun env => rfl
          cases e <;> first | rfl | exact absurd rfl (hnt _ _ _)
    · split at h
      · cases h
      · rename_i hc
        simp only [Option.bind_eq_some_iff] at h
        obtain ⟨t, ht, y, hy, e2⟩ := h
        cases e2
        exact s_asgT (by simpa using hc) (fun env => rfl) (E.t c _ t G ht) (E.e c _ y G hy).v fun env => rfl
    · cases h
  | Return v pos =>
    simp only [cS] at h
    split at h
    · simp only [Option.bind_eq_some_iff] at h
      obtain ⟨x, hx, e2⟩ := h
      cases e2
      obtain ⟨t, h1, h2⟩ := (E.e c _ x G hx).v
      exact ⟨_, sk_ret h1, fun X O => ps_ret (h2 X O)⟩
    · cases h
      exact ⟨_, sk_retN, fun X O => ps_retN⟩
  | If t a b pos =>
    simp only [cS, Option.bind_eq_some_iff] at h
    obtain ⟨z, hz, x, hx, y, hy, e2⟩ := h
    cases e2
    obtain ⟨_, tt, t1, t2⟩ := E.e c t z G hz
    obtain ⟨u1, a1, a2⟩ := I.ss c a x G hx
    obtain ⟨u2, b1, b2⟩ := I.ss c b y G hy
    exact ⟨_, sk_if t1 a1 b1, fun X O => ps_if (t2 X O) (a2 X O) (b2 X O)⟩
  | While t b o pos =>
    simp only [cS] at h
    split at h
    · simp only [Option.bind_eq_some_iff] at h
      obtain ⟨z, hz, x, hx, e2⟩ := h
      cases e2
      obtain ⟨_, tt, t1, t2⟩ := E.e c t z G hz
      obtain ⟨u1, a1, a2⟩ := I.ss c b x G hx
      exact ⟨_, sk_whl (n := n) t1 a1, fun X O => ps_while O.own (t2 X O) (a2 X O)⟩
    · cases h
  | For tg it b o pos =>
    simp only [cS] at h
    split at h
    · split at h
      · rename_i hns
        simp only [Option.bind_eq_some_iff] at h
        obtain ⟨s, hs, t, ht, x, hx, e2⟩ := h
        cases e2
        obtain ⟨wi, s1, s2⟩ := E.src c it tg s G hs
        obtain ⟨g, t1, t2⟩ := E.t c tg t G ht
        obtain ⟨u1, a1, a2⟩ := I.ss c b x G hx
        exact ⟨_, sk_for s1 t1 a1, fun X O => ps_for O.own O.calm (s2 X O) (t2 X O) (a2 X O) (noSet_pure hns X.env)⟩
      · cases h
    · cases h
  | Raise a b pos =>
    simp only [cS] at h
    cases h
    exact ⟨tNever, (fun R G0 G H env σ out D S e => nomatch e), fun X O => ps_never⟩
  | Pass pos =>
    simp only [cS] at h
    cases h
    exact ⟨_, sk_next, fun X O => ps_pass⟩
  | _ => simp [cS] at h
theorem sh_ss {m : Nat} (I : SH P w K mg base Γ lv n m) (c : CC) (ss : List Stmt) (irs : Sms) (G : GO P w K mg base c Γ lv) (h : cSs (m + 1) c ss = some irs) : StsOk P w K mg base Γ lv n c ss irs := by
  cases ss with
  | nil =>
    simp only [cSs] at h
    cases h
    exact ⟨_, sk_next, fun X O => pss_nil⟩
  | cons s ss =>
    simp only [cSs, Option.bind_eq_some_iff] at h
    obtain ⟨x, hx, xs, hxs, e2⟩ := h
    cases e2
    obtain ⟨t, h1, h2⟩ := I.s c s x G hx
    obtain ⟨u, g1, g2⟩ := I.ss c ss xs G hxs
    exact ⟨_, sk_seq h1 g1, fun X O => pss_cons (h2 X O) (g2 X O)⟩
theorem sh_all : ∀ m : Nat, SH P w K mg base Γ lv n m
  | 0 => ⟨(fun c s ir G h => nomatch h), (fun c ss irs G h => nomatch h)⟩
  | m + 1 => ⟨sh_s (sh_all m), sh_ss (sh_all m)⟩
end
end Pd

/-! a def keeps its promise -/
namespace Pd
open PySem PySem.Spec PyProof.Rows L2

/-- what a def of the text does on data -/
def mkSig (Γ : Tab) (n : Nat) (io : Bool) (np nl : Nat) (b : Sms) : Sig := ⟨io, fun ds => if ds.length = np then runD Γ n io nl b ds else none⟩

section
variable {P : Program} {w : World} {K : PySem.W.Frag} {mg : Str → Option Value} {base : Heap} {Γ : Tab} {lv n : Nat} {c : CC}
theorem guards_deeper {A : Around} {env : Env} (h : A.guards = some []) : (A.deeper env).guards = some [] := h
theorem start_get {N : List Str} {vs : List V} {i : Nat} : (start N vs)[i]? = if i < vs.length then (vs[i]?).map some else if i < vs.length + (N.length - vs.length) then some none else none := by
  unfold L2.start
  by_cases h : i < vs.length
  · rw [if_pos h, List.getElem?_append_left (by simpa using h), List.getElem?_map]
  · rw [if_neg h, List.getElem?_append_right (by simpa using h), List.length_map, List.getElem?_replicate]
    by_cases h2 : i < vs.length + (N.length - vs.length)
    · rw [if_pos h2, if_pos (by omega)]
    · rw [if_neg h2, if_neg (by omega)]
theorem RpAll.lens {G : Hp} {vs : List V} {ds : List PyData} (r : RpAll K G vs ds) : vs.length = ds.length := r.len
/-- the entry of a def that changes nothing -/
theorem entry_no {G H : Hp} {N : List Str} {vs : List V} {ds : List PyData} (g : Same G H) (r : RpAll K G vs ds) : SR K ⟨H, none⟩ G G H (env0 false N.length ds) (start N vs) [] := by
  have hl := r.len
  have he : ∀ (i : Nat) cc, (env0 false N.length ds)[i]? = some cc → (∃ d, cc = .va d ∧ ds[i]? = some d) ∨ (cc = .no ∧ ds.length ≤ i) := fun i cc e => by
    have e : (ds.map Cell.va ++ List.replicate (N.length - ds.length) Cell.no)[i]? = some cc := e
    by_cases h : i < ds.length
    · rw [List.getElem?_append_left (by simpa using h), List.getElem?_map, Option.map_eq_some_iff] at e
      obtain ⟨d, e1, e2⟩ := e
      exact .inl ⟨d, e2.symm, e1⟩
    · rw [List.getElem?_append_right (by simpa using h), List.getElem?_replicate] at e
      split at e
      · cases e
        exact .inr ⟨rfl, by omega⟩
      · cases e
  have noOw : ∀ i a, ¬ OwnS (env0 false N.length ds) (start N vs) i a := fun i a ⟨⟨es, q⟩, _⟩ => by
    rcases q with q | q <;> rcases he i _ q with ⟨d, z, _⟩ | ⟨z, _⟩ <;> cases z
  refine ⟨g, Same.refl _, Same.refl _, fun b hb => .inl hb, ?_, fun i cc e => ?_, fun i a h => absurd h (noOw i a), fun i j a h => absurd h (noOw i a), (fun p hp => nomatch hp), (fun a ha => nomatch ha), List.nodup_nil, fun i a h => absurd h (noOw i a), fun i es e => ?_⟩
  · show (ds.map Cell.va ++ List.replicate (N.length - ds.length) Cell.no).length = (start N vs).length
    unfold L2.start
    rw [List.length_append, List.length_append, List.length_map, List.length_map, List.length_replicate, List.length_replicate, hl]
  · rcases he i cc e with ⟨d, z, z2⟩ | ⟨z, _⟩
    · subst z
      obtain ⟨v, hv, rv⟩ := r.get z2
      have hi : i < vs.length := (List.getElem?_eq_some_iff.mp hv).1
      exact ⟨v, by rw [start_get, if_pos hi, hv]; rfl, rv⟩
    · subst z
      trivial
  · rcases he i _ e with ⟨d, z, _⟩ | ⟨z, _⟩ <;> cases z
/-- the entry of a def that changes the list at a -/
theorem entry_io {G H : Hp} {N : List Str} {a : Addr} {xs ws : List V} {ds0 : List PyData} {ds : List PyData} (g : Same G H) (ha : H a = some (.lst xs)) (hG : G a = none) (r0 : RpAll K G xs ds0) (r : RpAll K G ws ds) :
    SR K ⟨fun b => if b = a then none else H b, some a⟩ G G H (env0 true N.length (.list ds0 :: ds)) (start N (.ref a :: ws)) [] := by
  have hl := r.len
  have e0 : env0 true N.length (.list ds0 :: ds) = (.io ds0 :: ds.map Cell.va) ++ List.replicate (N.length - (ds.length + 1)) Cell.no := rfl
  have he : ∀ (i : Nat) cc, (env0 true N.length (.list ds0 :: ds))[i]? = some cc → (i = 0 ∧ cc = .io ds0) ∨ (∃ j d, i = j + 1 ∧ cc = .va d ∧ ds[j]? = some d) ∨ (cc = .no ∧ 1 ≤ i) := fun i cc e => by
    rw [e0] at e
    cases i with
    | zero =>
      cases e
      exact .inl ⟨rfl, rfl⟩
    | succ i =>
      have e : (ds.map Cell.va ++ List.replicate (N.length - (ds.length + 1)) Cell.no)[i]? = some cc := e
      by_cases h : i < ds.length
      · rw [List.getElem?_append_left (by simpa using h), List.getElem?_map, Option.map_eq_some_iff] at e
        obtain ⟨d, e1, e2⟩ := e
        exact .inr (.inl ⟨i, d, rfl, e2.symm, e1⟩)
      · rw [List.getElem?_append_right (by simpa using h), List.getElem?_replicate] at e
        split at e
        · cases e
          exact .inr (.inr ⟨rfl, by omega⟩)
        · cases e
  have st0 : (start N (.ref a :: ws))[0]? = some (some (.ref a)) := by
    rw [start_get, if_pos (by simp)]
    rfl
  have own : ∀ i b, OwnS (env0 true N.length (.list ds0 :: ds)) (start N (.ref a :: ws)) i b → i = 0 ∧ b = a := fun i b ⟨⟨es, q⟩, q2⟩ => by
    have hi : i = 0 := by
      rcases q with q | q <;> rcases he i _ q with ⟨z, z2⟩ | ⟨j, d, _, z, _⟩ | ⟨z, _⟩ <;> first | exact z | cases z
    subst hi
    rw [st0] at q2
    cases q2
    exact ⟨rfl, rfl⟩
  refine ⟨g, fun b o e => ?_, Same.refl _, fun b hb => .inl hb, ?_, fun i cc e => ?_, fun i b h => ?_, fun i j b h h2 => by rw [(own i b h).1, (own j b h2).1], (fun p hp => nomatch hp), (fun b hb => nomatch hb), List.nodup_nil, (fun i b h hb => nomatch hb), fun i es e => ?_⟩
  · have e : (if b = a then none else H b) = some o := e
    split at e
    · cases e
    · exact e
  · rw [e0]
    unfold L2.start
    simp only [List.length_append, List.length_cons, List.length_map, List.length_replicate]
    rw [hl]
  · rcases he i cc e with ⟨z, z2⟩ | ⟨j, d, z, z2, z3⟩ | ⟨z, _⟩
    · subst z
      subst z2
      exact ⟨a, xs, st0, ha, r0⟩
    · subst z
      subst z2
      obtain ⟨v, hv, rv⟩ := r.get z3
      have hi : j < ws.length := (List.getElem?_eq_some_iff.mp hv).1
      exact ⟨v, by rw [start_get, if_pos (by simp; omega), List.getElem?_cons_succ, hv]; rfl, rv⟩
    · subst z
      trivial
  · obtain ⟨_, z⟩ := own i b h
    subst z
    exact ⟨hG, if_pos rfl⟩
  · rcases he i _ e with ⟨z, z2⟩ | ⟨j, d, _, z, _⟩ | ⟨z, _⟩
    · subst z
      exact ⟨a, rfl, st0⟩
    · cases z
    · cases z
theorem rv_end {G0 G' H H' : Hp} {R : RR} {env' : EnvD} {σ' : L2.St} {r : Rv} {v : V} (S : SR K R G0 G' H' env' σ' [(r.opd, v)]) (hR : ∀ b, R.h b = none → H b = none ∨ R.io = some b) (hio : ∀ a, R.io = some a → ∃ ds, env'[(0 : Nat)]? = some (.io ds)) : RvR K H G' H' r v := by
  have h := S.top
  cases r with
  | va d => exact h
  | ow ds =>
    obtain ⟨p, xs, e, hp, ra⟩ := h
    have e : v = .ref p := e
    subst e
    have f := S.freeT p (by show p ∈ ownT [(Opd.ow ds, V.ref p)]; rw [ownT_ow]; exact List.mem_cons_self)
    refine ⟨p, xs, rfl, ?_, f.1, hp, ra⟩
    rcases hR p f.2 with z | z
    · exact z
    · obtain ⟨es, q⟩ := hio p z
      obtain ⟨b, e1, e2⟩ := S.iod 0 es q
      rw [z] at e1
      cases e1
      exact absurd (show p ∈ ownT [(Opd.ow ds, V.ref p)] by rw [ownT_ow]; exact List.mem_cons_self) (S.cross 0 p ⟨⟨es, .inr q⟩, e2⟩)
/-- the body does what the data say -/
theorem body_ok {t : TS} {irs : Sms} {io : Bool} {np : Nat} {N : List Str} {vs : List V} {H : Hp} {Q : VK} {E : XK} (ht : TSok K t (exSs Γ n irs)) (h : spD K (mkSig Γ n io np N.length irs) vs H Q E) : t { nx := fun _ H' => Q .non H', rt := Q } (start N vs) H := by
  rcases h with ⟨hio, G, ds, r, x, g, ra, hrun, q⟩ | ⟨hio, G, a, xs, ds0, ws, ds, r, x, e, g, ha, hG, r0, rw', hrun, q⟩
  · have hio : io = false := hio
    subst hio
    have hrun : (if ds.length = np then runD Γ n false N.length irs ds else none) = some (r, x) := hrun
    split at hrun
    · unfold runD at hrun
      rw [Option.bind_eq_some_iff] at hrun
      obtain ⟨out, ho, hout⟩ := hrun
      have S := entry_no (N := N) g ra
      refine ht _ _ _ _ _ _ out _ S ho (fun env' σ' G' H' e g' S' => ?_) fun r' env' v σ' G' H' e g' S' => ?_
      · subst e
        have hout : some (Rv.va .none, ([] : List PyData)) = some (r, x) := hout
        cases hout
        exact q .non G' H' g' (fun b hb => S'.gr b hb) S'.gh S'.rh .non
      · subst e
        have hout : some (r', ([] : List PyData)) = some (r, x) := hout
        cases hout
        refine q v G' H' g' (fun b hb => S'.gr b hb) S'.gh S'.rh (rv_end S' (fun b hb => .inl hb) fun a ha => nomatch ha)
    · cases hrun
  · have hio : io = true := hio
    subst hio
    subst e
    have hrun : (if (PyData.list ds0 :: ds).length = np then runD Γ n true N.length irs (.list ds0 :: ds) else none) = some (r, x) := hrun
    split at hrun
    · unfold runD at hrun
      rw [Option.bind_eq_some_iff] at hrun
      obtain ⟨out, ho, hout⟩ := hrun
      have S := entry_io (N := N) g ha hG r0 rw'
      have fin : ∀ {env' : EnvD} {σ' : L2.St} {G' H' : Hp} {tmp : Tmp} {es : List PyData}, Same G G' → SR K ⟨fun b => if b = a then none else H b, some a⟩ G G' H' env' σ' tmp → env'[(0 : Nat)]? = some (.io es) →
          (∀ b, G' b ≠ none → G b ≠ none ∨ H b = none) ∧ (∀ b o, b ≠ a → H b = some o → H' b = some o) ∧ ∃ ys, H' a = some (.lst ys) ∧ RpAll K G' ys es := fun {env' σ' G' H' tmp es} g' S' e0 => by
        obtain ⟨b, e1, e2⟩ := S'.iod 0 es e0
        cases e1
        obtain ⟨b, ys, e3, e4, e5⟩ := S'.slot 0 _ e0
        rw [e2] at e3
        cases e3
        have fa := S'.free 0 a ⟨⟨es, .inr e0⟩, e2⟩
        refine ⟨fun b hb => ?_, fun b o nb z => S'.rh b o (show (if b = a then none else H b) = some o by rw [if_neg nb]; exact z), ys, e4, e5⟩
        rcases S'.gr b hb with z | z
        · exact .inl z
        · have z : (if b = a then none else H b) = none := z
          split at z
          · rename_i eb
            rw [eb] at hb
            exact absurd fa.1 hb
          · exact .inr z
      refine ht _ _ _ _ _ _ out _ S ho (fun env' σ' G' H' e g' S' => ?_) fun r' env' v σ' G' H' e g' S' => ?_
      · subst e
        unfold outD at hout
        dsimp only at hout
        split at hout
        · rename_i es e0
          cases hout
          obtain ⟨f1, f2, ys, f3, f4⟩ := fin g' S' e0
          exact q .non G' H' ys g' f1 S'.gh f2 f3 f4 .non
        · cases hout
      · subst e
        unfold outD at hout
        dsimp only at hout
        split at hout
        · rename_i es e0
          cases hout
          obtain ⟨f1, f2, ys, f3, f4⟩ := fin g' S' e0
          refine q v G' H' ys g' f1 S'.gh f2 f3 f4 (rv_end S' (fun b hb => ?_) fun a' _ => ⟨_, e0⟩)
          have hb : (if b = a then none else H b) = none := hb
          split at hb
          · rename_i eb
            exact .inr (by rw [eb])
          · exact .inl hb
        · cases hout
    · cases hrun
/-- THE RULE for a def -/
theorem def_ok {x qual : Str} {st : Stmt} {f : Addr} {fd : FuncData} {ps : List Str} {m : Nat} {io : Bool} {irs : Sms} (F : Fun K x qual st f fd) (S : FnScope c.N ps (defScope st)) (hsc : c.sc = defScope st) (G : GO P w K mg base c Γ lv) (hb : cSs m c (defBody st) = some irs) :
    FnD P w K mg base (lv + 1) f fd ps (spD K (mkSig Γ n io ps.length c.N.length irs)) := by
  obtain ⟨oc, od, kV, doc, pm, an, cdv, ct, osl, rfl, lk, hcd⟩ := F.ex
  have len : ∀ vs H Q E, spD K (mkSig Γ n io ps.length c.N.length irs) vs H Q E → vs.length = ps.length := fun vs H Q E h => by
    rcases h with ⟨_, G, ds, r, x, g, ra, hrun, q⟩ | ⟨_, G, a, xs, ds0, ws, ds, r, x, e, g, ha, hG, r0, rw', hrun, q⟩
    · have hrun : (if ds.length = ps.length then runD Γ n io c.N.length irs ds else none) = some (r, x) := hrun
      split at hrun
      · rename_i hl
        rw [ra.len]
        exact hl
      · cases hrun
    · have hrun : (if (PyData.list ds0 :: ds).length = ps.length then runD Γ n io c.N.length irs (.list ds0 :: ds) else none) = some (r, x) := hrun
      split at hrun
      · rename_i hl
        rw [e, List.length_cons, rw'.len]
        exact hl
      · cases hrun
  obtain ⟨t, t1, t2⟩ := (sh_all (P := P) (w := w) (K := K) (mg := mg) (base := base) (Γ := Γ) (lv := lv) (n := n) m).ss c (defBody st) irs G hb
  refine ⟨len, fun A outer s H args us vs Q E hr hgd e0 hbd r hsp => ?_⟩
  have hl := len _ _ _ _ hsp
  have KX : K.In s.heap := e0.mod.kin.keeps fun b o e => (e0.bs b o e).1
  have lim : s.heap.NoLimit := e0.mod.nolimit.keeps fun b o e => (e0.bs b o e).1
  refine codeAny_call_function hr.depth (KX _ _ lk) rfl S.co S.gen rfl (PySem.W.codeRec_of KX hcd) (hbd _ _ _ _ ?_)
  refine wpAny_newFunctionEnv_cells S.kind (fun ⟨y, u⟩ hy => ?_) fun env he s1 xx => ?_
  · rcases S.par y (List.of_mem_zip hy).1 with q | q
    · exact .inl q
    · exact .inr ⟨q, PySem.W.cellsFrom_some _ _ _ (.inl q)⟩
  subst he
  refine ⟨lim.keeps xx.toInCall.keep, codeAny_func ?_⟩
  have I : Inv (cxOf L2.CX0 P w K mg base c.N qual (defScope st) f cdv A outer s H E) [] (start c.N vs) H s1 := inv_start S hr.hd e0 hl r xx
  have O : XO P w K mg base Γ lv c (cxOf L2.CX0 P w K mg base c.N qual (defScope st) f cdv A outer s H E).nox :=
    ⟨rfl, rfl, rfl, rfl, rfl, rfl, S.nd, hsc.symm, rfl, guards_deeper hgd, hr.deeper _, rfl, fun _ _ _ => rfl, G⟩
  have hps := (t2 _ O).nox
  refine wpAny_mono (hps.run [] s1 (start c.N vs) H _ I (body_ok t1 hsp)) (fun fl s' hs => ?_) fun e s' hs => hs
  have done : ∀ {σ' : L2.St} {H' : Hp} {v : V} {u : Value}, Inv (cxOf L2.CX0 P w K mg base c.N qual (defScope st) f cdv A outer s H E) [] σ' H' s' → RelV v u → Q v H' → CE outer P w H s Q u s' :=
    fun {σ' H' v u} J z q => ⟨v, H', J.os, J.bare, J.base, J.hok, z, q⟩
  cases fl with
  | next =>
    obtain ⟨σ', H', J, q⟩ := hs
    exact done (v := V.non) (u := Value.none) J rfl q
  | ret u =>
    obtain ⟨v, σ', H', J, z, q⟩ := hs
    exact done J z q
  | brk =>
    obtain ⟨_, _, _, q⟩ := hs
    exact q.elim
  | cont =>
    obtain ⟨_, _, _, q⟩ := hs
    exact q.elim
end
end Pd

/-! the law's own call -/
namespace Pd
open PySem PySem.Spec PyProof.Rows L2

/-- the law's def is called behind the top: its answer is True (the road of HandS.Ends.law_call, for FnD) -/
theorem lawD {P : Program} {w : World} {K : PySem.W.Frag} {gl bl : Str → Option Value} {lv : Nat} {fa la : Addr} {fd : FuncData} {nm : Str} {g : Sig} {st : Shared} {us : List Value} {ns : List Int}
    (kin : K.In st.heap) (gns : st.heap.Ns mainGlobals gl) (bns : st.heap.Ns builtinsNs bl) (bbs : ∀ y : Str, y ≠ "__name__" → bl y = bootBuiltins y) (nlm : st.heap.NoLimit) (gen : st.gens = #[])
    (hla : st.heap.get? la = some { cls := .type "list", data := .seq us.toArray }) (iis : IntsAre us ns) (hz : ns.length ≤ sizeLine) (room : Room lv callerA) (gd : callerA.guards = some [])
    (F : ∀ bs : Heap, K.In bs → bs.Ns mainGlobals gl → FnD P w K gl bs lv fa fd [nm] (spD K g)) (bd : ∀ (z : Shared) (y : Value), BindsTo z fd ⟨[y], []⟩ [(nm, y)])
    (io : g.io = false) (run : g.run [scrD ns] = some (.va (.bool true), [])) :
    codeAny (model P w) callerA (.call (.ref fa) ⟨[.ref la], []⟩) (fun q z => q = .ok (.ret (.bool true)) ∧ OldK st.heap z.heap ∧ z.os = st.os ∧ AllBare z.gens) st := by
  have vr := vals_ints iis
  have ul := iis.length
  have main : ∀ T : Hp, Only T → SqL K T la (ns.map V.int) → HOk P w T st.heap → (∀ c, T c ≠ none → c = la) → (T la ≠ none → K.lookup la = none) →
      codeAny (model P w) callerA (.call (.ref fa) ⟨[.ref la], []⟩) (fun q z => q = .ok (.ret (.bool true)) ∧ OldK st.heap z.heap ∧ z.os = st.os ∧ AllBare z.gens) st := by
    intro T only seq hok one free
    have keep : ∀ {c : Addr} {u : Obj}, st.heap.get? c = some u → T c = none → (hidT st.heap T).get? c = some u := fun e1 e2 => hidT_get e1 e2
    have dicts : ∀ {c : Addr} {u : Obj} {en : Array DictEntry} {ep : Nat}, st.heap.get? c = some u → u.data = .dict en ep → T c = none := fun {c u en ep} e1 e2 => by
      cases tc : T c with
      | none => rfl
      | some z =>
        have ec : c = la := one c (by rw [tc]; simp)
        rw [ec, hla] at e1
        cases e1
        exact absurd (show Data.seq us.toArray _ = Data.dict en ep from e2) (fun z => nomatch z)
    have nsT : ∀ {c : Addr} {m : Str → Option Value}, st.heap.Ns c m → (hidT st.heap T).Ns c m := fun {c m} ⟨u, en, ep, e1, e2, e3⟩ => ⟨u, en, ep, keep e1 (dicts e1 e2), e2, e3⟩
    have kT : K.In (hidT st.heap T) := fun c u e1 => keep (kin c u e1) (by
      cases tc : T c with
      | none => rfl
      | some z =>
        have ec : c = la := one c (by rw [tc]; simp)
        subst ec
        rw [free (by rw [tc]; simp)] at e1
        cases e1)
    have md : Mod K gl (hidT st.heap T) := ⟨kT, nsT gns, ⟨bl, nsT bns, bbs⟩, by
      obtain ⟨mc, h1, h2⟩ := nlm
      exact ⟨mc, nsT h1, h2⟩⟩
    have en0 : Env0 P w K gl (hidT st.heap T) callerA [] st T := ⟨rfl, md, fun c u e1 => of_hidT e1, Nat.le_of_eq (hidT_size _ _), trivial, fun c hc => absurd (show c ∈ ([] : List Addr) from hc) List.not_mem_nil, hok, .of_eq gen⟩
    have sp : spD K g [.ref la] T (fun v _ => v = .bl true) (fun _ _ _ => False) :=
      .inl ⟨io, T, [scrD ns], .va (.bool true), [], Same.refl _, .cons (.scr seq) .nil, run, fun v G' H' _ _ _ _ rv => Rp.boolI rv⟩
    refine codeAny_mono ((F _ kT (nsT gns)).run callerA [] st T ⟨[.ref la], []⟩ [.ref la] [.ref la] _ _ room gd en0 (bd st (.ref la)) (.cons rfl .nil) sp) fun q z hq => ?_
    match q, hq with
    | .error _, hq => exact False.elim hq
    | .ok .next, hq => exact False.elim hq
    | .ok .brk, hq => exact False.elim hq
    | .ok .cont, hq => exact False.elim hq
    | .ok (.ret y), hq =>
      obtain ⟨v, T', os', bare, un, hok', rel, ev⟩ := hq
      have ev : v = .bl true := ev
      subst ev
      have ey : y = Value.bool true := rel
      subst ey
      refine ⟨rfl, OldK.of_keep fun c u e1 => ?_, os', bare⟩
      cases tc : T c with
      | none => exact un.keep c u e1 tc (fun z => absurd (show c ∈ ([] : List Addr) from z) List.not_mem_nil) (by simp)
      | some z =>
        rcases only c with e2 | ⟨ob, xs, e2⟩
        · rw [tc] at e2
          cases e2
        · obtain ⟨f1, _⟩ := hok c _ e2
          obtain ⟨f2, _⟩ := hok' c _ (un.frzs c ob _ e2)
          rw [e1] at f1
          cases f1
          exact f2
  cases lk : K.lookup la with
  | some ob =>
    have e1 := kin la ob lk
    rw [hla] at e1
    cases e1
    exact main (fun _ => none) (fun _ => .inl rfl) (.inr ⟨_, us.toArray, _, lk, rfl, rfl, rfl, by rw [List.size_toArray, ul]; exact hz, by simpa using vr⟩) (fun c u z => nomatch (show (none : Option HO) = some u from z)) (fun c z => absurd rfl z) fun z => absurd rfl z
  | none =>
    have here : ∀ c, (if c = la then some (HO.frz { cls := .type "list", data := .seq us.toArray } (.lst (ns.map V.int))) else none) = none ∨ c = la := fun c => by
      by_cases e : c = la
      · exact .inr e
      · exact .inl (if_neg e)
    refine main (fun c => if c = la then some (HO.frz { cls := .type "list", data := .seq us.toArray } (.lst (ns.map V.int))) else none) (fun c => ?_) (.inl (.inr ⟨{ cls := .type "list", data := .seq us.toArray }, if_pos rfl⟩)) (fun c u z => ?_) (fun c z => ?_) fun _ => lk
    · rcases here c with e | e
      · exact .inl e
      · exact .inr ⟨_, _, if_pos e⟩
    · have z : (if c = la then some (HO.frz { cls := .type "list", data := .seq us.toArray } (.lst (ns.map V.int))) else none) = some u := z
      split at z
      · rename_i e
        cases z
        subst e
        exact ⟨hla, by rw [List.length_map]; exact hz, us, _, vr, hla⟩
      · cases z
    · rcases here c with e | e
      · exact absurd e z
      · exact e
/-- the goal that k_head leaves -/
theorem walkD {l : PySem.W.OpenLaw} {n lv : Nat} {q : Program} {loose : List Str} {XP : (Str → Option Value) → Heap → Prop} {YP : World → Heap → Prop} {d : DefRec} {K : Params → PySem.W.Frag} {g : Sig} {nm : Str}
    (most : l.most = some n) (nz : n ≤ sizeLine) (nodf : d.params.defaults = []) (room : Room lv callerA) (gd : callerA.guards = some []) (kin : ∀ (w : World) (h : Heap), YP w h → (K w.params).In h)
    (F : ∀ (w : World) (gl : Str → Option Value) (fa : Addr) (h : Heap), (K w.params).In h → h.Ns mainGlobals gl → gl d.name = some (.ref fa) →
      ∃ fd : FuncData, (∀ (z : Shared) (y : Value), BindsTo z fd ⟨[y], []⟩ [(nm, y)]) ∧ ∀ bs : Heap, (K w.params).In bs → bs.Ns mainGlobals gl → FnD l.prog w (K w.params) gl bs lv fa fd [nm] (spD (K w.params) g))
    (io : g.io = false) (run : ∀ ns : List Int, ns.length ≤ n → g.run [scrD ns] = some (.va (.bool true), [])) :
    PySem.W.WalkO q loose XP YP l.row.toRowW d [] (fun f us => PySem.call f us) := by
  refine Att.attach_call most nodf fun w s0 st gl bl fa ob pm cd doc la us ns G Y ho hd hcd hgl hobj iis hlen gen => ?_
  have KX := kin w _ Y
  obtain ⟨fd, bd, FF⟩ := F w gl fa _ KX G.T.g hgl
  exact lawD KX G.T.g G.T.b G.T.builtins G.T.nolimit gen hobj iis (Nat.le_trans hlen nz) room gd FF bd io (run ns hlen)
end Pd

/-! reading the small language's runs: loops, lists of ints -/
namespace Pd
open PySem PySem.Spec PyProof.Rows L2

/-! ### lists of ints -/
abbrev li (xs : List Int) : PyData := .list (xs.map PyData.int)
theorem canLay_ints : ∀ xs : List Int, PyData.canLayAll0 (xs.map PyData.int) = true
  | [] => rfl
  | x :: xs => by
    show (true && PyData.canLayAll0 (xs.map PyData.int)) = true
    rw [canLay_ints xs]
    rfl
theorem depth_ints : ∀ xs : List Int, PyData.depthAll (xs.map PyData.int) = 0
  | [] => rfl
  | x :: xs => by
    show max 0 (PyData.depthAll (xs.map PyData.int)) = 0
    rw [depth_ints xs]
    rfl
theorem shaped_li (xs : List Int) : SeqAt.shaped (li xs) = true := by
  unfold SeqAt.shaped
  rw [show (li xs).canLay0 = PyData.canLayAll0 (xs.map PyData.int) by rw [PyData.canLay0], canLay_ints]
  rw [show (li xs).depth = PyData.depthAll (xs.map PyData.int) + 1 by rw [PyData.depth], depth_ints]
  rfl
theorem shaped_tup (xs : List Int) : SeqAt.shaped (.tuple (xs.map PyData.int)) = true := by
  unfold SeqAt.shaped
  rw [show (PyData.tuple (xs.map PyData.int)).canLay0 = PyData.canLayAll0 (xs.map PyData.int) by rw [PyData.canLay0], canLay_ints]
  rw [show (PyData.tuple (xs.map PyData.int)).depth = PyData.depthAll (xs.map PyData.int) + 1 by rw [PyData.depth], depth_ints]
  rfl
theorem eqvAll_ints : ∀ xs ys : List Int, PyData.eqvAll (xs.map PyData.int) (ys.map PyData.int) = decide (xs = ys)
  | [], [] => rfl
  | [], y :: ys => by
    rw [List.map_nil, List.map_cons, PyData.eqvAll]
    simp
  | x :: xs, [] => by
    rw [List.map_nil, List.map_cons, PyData.eqvAll]
    simp
  | x :: xs, y :: ys => by
    rw [List.map_cons, List.map_cons, PyData.eqvAll, eqvAll_ints xs ys, PyData.eqv]
    simp only [List.cons.injEq]
    by_cases h : x = y <;> simp [h]
theorem eqv_li (xs ys : List Int) : PyData.eqv (li xs) (li ys) = decide (xs = ys) := by
  rw [PyData.eqv]
  exact eqvAll_ints xs ys
theorem cmp_eq_li (xs ys : List Int) : cmpD .eq (li xs) (li ys) = some (decide (xs = ys)) := by
  show (if (SeqAt.shaped (li xs) && SeqAt.shaped (li ys)) = true then some (PyData.eqv (li xs) (li ys)) else none) = _
  rw [shaped_li, shaped_li, eqv_li]
  rfl
theorem cmp_ne_li (xs ys : List Int) : cmpD .ne (li xs) (li ys) = some (!decide (xs = ys)) := by
  show (if (SeqAt.shaped (li xs) && SeqAt.shaped (li ys)) = true then some (!PyData.eqv (li xs) (li ys)) else none) = _
  rw [shaped_li, shaped_li, eqv_li]
  rfl
/-! written forms -/
theorem log2_le {n b : Nat} (h : n < 2 ^ b) : n.log2 ≤ b := by
  by_cases h0 : n = 0
  · subst h0
    simp
  · exact Nat.le_of_lt ((Nat.log2_lt h0).mpr h)
/-- an int that is short enough to be written, many times over -/
def sh (i : Int) : Prop := i.natAbs < 2 ^ 1000
theorem show_ints : ∀ xs : List Int, (∀ x ∈ xs, sh x) → PyData.showableAll (xs.map PyData.int) = true
  | [], _ => rfl
  | x :: xs, h => by
    show (decide (x.natAbs.log2 < 1920) && PyData.showableAll (xs.map PyData.int)) = true
    rw [show_ints xs fun y hy => h y (List.mem_cons_of_mem _ hy), decide_eq_true]
    · rfl
    · have := log2_le (h x List.mem_cons_self)
      omega
theorem wszs_ints : ∀ xs : List Int, (∀ x ∈ xs, sh x) → wszs (xs.map PyData.int) ≤ 1005 * xs.length
  | [], _ => by simp [wszs]
  | x :: xs, h => by
    have := wszs_ints xs fun y hy => h y (List.mem_cons_of_mem _ hy)
    have h2 := log2_le (h x List.mem_cons_self)
    rw [List.map_cons, wszs, wsz, List.length_cons]
    omega
theorem reprOk_li {xs : List Int} (h : ∀ x ∈ xs, sh x) (hl : xs.length ≤ 10000) : reprOk (li xs) = true := by
  have h1 := wszs_ints xs h
  have e1 : (li xs).canLay0 = true := by
    rw [show (li xs).canLay0 = PyData.canLayAll0 (xs.map PyData.int) by rw [PyData.canLay0], canLay_ints]
  have e2 : (li xs).showable = true := by
    rw [show (li xs).showable = PyData.showableAll (xs.map PyData.int) by rw [PyData.showable], show_ints xs h]
  have e3 : (li xs).depth = 1 := by
    rw [show (li xs).depth = PyData.depthAll (xs.map PyData.int) + 1 by rw [PyData.depth], depth_ints]
  have e4 : wsz (li xs) = wszs (xs.map PyData.int) + 3 := by rw [wsz]
  unfold reprOk
  rw [e1, e2, e3, e4, decide_eq_true (by omega), decide_eq_true (by omega)]
  rfl
/-- data of which a list is made that is written -/
structure Shw (d : PyData) (m : Nat) : Prop where
  lay : d.canLay0 = true
  shw : d.showable = true
  dep : d.depth ≤ 40
  siz : wsz d ≤ m
theorem Shw.ok {d : PyData} {m : Nat} (h : Shw d m) (hm : m ≤ 16777216) : reprOk d = true := by
  unfold reprOk
  rw [h.lay, h.shw, decide_eq_true (by have := h.dep; omega), decide_eq_true (by have := h.siz; omega)]
  rfl
theorem Shw.li {xs : List Int} (h : ∀ x ∈ xs, sh x) : Shw (li xs) (1005 * xs.length + 3) := by
  have h1 := wszs_ints xs h
  refine ⟨?_, ?_, ?_, ?_⟩
  · rw [show (Pd.li xs).canLay0 = PyData.canLayAll0 (xs.map PyData.int) by rw [PyData.canLay0], canLay_ints]
  · rw [show (Pd.li xs).showable = PyData.showableAll (xs.map PyData.int) by rw [PyData.showable], show_ints xs h]
  · rw [show (Pd.li xs).depth = PyData.depthAll (xs.map PyData.int) + 1 by rw [PyData.depth], depth_ints]
    omega
  · rw [show wsz (Pd.li xs) = wszs (xs.map PyData.int) + 3 by rw [wsz]]
    omega
theorem Shw.int {i : Int} (h : sh i) : Shw (.int i) 1003 := by
  have h2 := log2_le h
  refine ⟨rfl, ?_, ?_, ?_⟩
  · rw [PyData.showable]
    exact decide_eq_true (by omega)
  · rw [PyData.depth]
    omega
  · rw [wsz]
    omega
theorem shw_list {ds : List PyData} {m : Nat} (h : ∀ d ∈ ds, d.canLay0 = true ∧ d.showable = true ∧ d.depth ≤ 39 ∧ wsz d ≤ m) : Shw (.list ds) ((m + 2) * ds.length + 3) := by
  have : PyData.canLayAll0 ds = true ∧ PyData.showableAll ds = true ∧ PyData.depthAll ds ≤ 39 ∧ wszs ds ≤ (m + 2) * ds.length := by
    induction ds with
    | nil => exact ⟨rfl, rfl, Nat.zero_le _, by simp [wszs]⟩
    | cons d ds ih =>
      obtain ⟨a, b, c, e⟩ := h d List.mem_cons_self
      obtain ⟨a', b', c', e'⟩ := ih fun x hx => h x (List.mem_cons_of_mem _ hx)
      refine ⟨?_, ?_, ?_, ?_⟩
      · rw [PyData.canLayAll0, a, a']
        rfl
      · rw [PyData.showableAll, b, b']
        rfl
      · rw [PyData.depthAll]
        omega
      · rw [wszs, List.length_cons, Nat.mul_add]
        omega
  obtain ⟨a, b, c, e⟩ := this
  refine ⟨?_, ?_, ?_, ?_⟩
  · rw [PyData.canLay0]
    exact a
  · rw [PyData.showable]
    exact b
  · rw [PyData.depth]
    omega
  · rw [wsz]
    omega

/-! ### loops -/
theorem forL_fold {S X : Type} {tg : PyData → EnvD → Option EnvD} {b : EnvD → Option Out} (E : X → S → EnvD) (g : PyData → S → S) (P : S → Prop) : ∀ (items : List PyData),
    (∀ d ∈ items, ∀ x s, P s → ∃ x', (tg d (E x s)).bind b = some (.nx (E x' (g d s))) ∧ P (g d s)) → ∀ x s, P s → ∃ x', forL tg b items (E x s) = some (.nx (E x' (items.foldl (fun s d => g d s) s))) ∧ P (items.foldl (fun s d => g d s) s)
  | [], _, x, s, p => ⟨x, rfl, p⟩
  | d :: r, h, x, s, p => by
    obtain ⟨x1, h1, p1⟩ := h d List.mem_cons_self x s p
    obtain ⟨x2, h2, p2⟩ := forL_fold E g P r (fun d' hd => h d' (List.mem_cons_of_mem _ hd)) x1 _ p1
    refine ⟨x2, ?_, p2⟩
    rw [Option.bind_eq_some_iff] at h1
    obtain ⟨e1, z1, z2⟩ := h1
    unfold forL
    rw [z1]
    show (b e1).bind _ = _
    rw [z2]
    exact h2
/-- for i in range(n) -/
theorem forL_range {S X : Type} {tg : PyData → EnvD → Option EnvD} {b : EnvD → Option Out} (E : X → S → EnvD) (s : Nat → S) (f : Nat → PyData) : ∀ (n k : Nat),
    (∀ i, k ≤ i → i < k + n → ∀ x, ∃ x', (tg (f i) (E x (s i))).bind b = some (.nx (E x' (s (i + 1))))) → ∀ x, ∃ x', forL tg b ((List.range' k n).map f) (E x (s k)) = some (.nx (E x' (s (k + n))))
  | 0, k, _, x => ⟨x, rfl⟩
  | n + 1, k, h, x => by
    obtain ⟨x1, h1⟩ := h k (Nat.le_refl _) (by omega) x
    obtain ⟨x2, h2⟩ := forL_range E s f n (k + 1) (fun i h1 h2 => h i (by omega) (by omega)) x1
    refine ⟨x2, ?_⟩
    rw [Option.bind_eq_some_iff] at h1
    obtain ⟨e1, z1, z2⟩ := h1
    rw [List.range'_succ, List.map_cons]
    unfold forL
    rw [z1]
    show (b e1).bind _ = _
    rw [z2]
    rw [show k + (n + 1) = k + 1 + n by omega]
    exact h2
theorem whlL_mono {c : EnvD → Option (Bool × EnvD)} {b : EnvD → Option Out} : ∀ {m n : Nat} {e : EnvD} {o : Out}, m ≤ n → whlL c b m e = some o → whlL c b n e = some o
  | 0, _, _, _, _, h => by cases h
  | m + 1, 0, _, _, hl, _ => absurd hl (by omega)
  | m + 1, n + 1, e, o, hl, h => by
    unfold whlL at h ⊢
    rw [Option.bind_eq_some_iff] at h ⊢
    obtain ⟨p, h1, h2⟩ := h
    refine ⟨p, h1, ?_⟩
    obtain ⟨t, e1⟩ := p
    cases t with
    | false => exact h2
    | true =>
      dsimp only at h2 ⊢
      rw [Option.bind_eq_some_iff] at h2 ⊢
      obtain ⟨o1, h3, h4⟩ := h2
      refine ⟨o1, h3, ?_⟩
      cases o1 with
      | nx e2 => exact whlL_mono (by omega) h4
      | rt r e2 => exact h4
/-- a comprehension without tests whose element changes a state -/
theorem compL_st {S : Type} {tg : PyData → EnvD → Option EnvD} {ts : EnvD → Option (Bool × EnvD)} {el : EnvD → Option (PyData × EnvD)} {own : List Nat} (E : S → EnvD) (g : PyData → S → S) (r : PyData → S → PyData) (P : S → Prop) : ∀ (items : List PyData),
    (∀ d ∈ items, ∀ s, P s → ∃ e1 e2 e3, tg d (E s) = some e1 ∧ ts e1 = some (true, e2) ∧ el e2 = some (r d s, e3) ∧ wipe1 e3 own = E (g d s) ∧ P (g d s)) → ∀ s, P s → ∃ out s', compL tg ts el own items (E s) = some (out, E s') ∧ P s' ∧ out.length = items.length ∧
      (items.foldl (fun (q : List PyData × S) d => (q.1 ++ [r d q.2], g d q.2)) ([], s)) = (out, s')
  | [], _, s, p => ⟨[], s, rfl, p, rfl, rfl⟩
  | d :: rs, h, s, p => by
    obtain ⟨e1, e2, e3, z1, z2, z3, z4, p1⟩ := h d List.mem_cons_self s p
    obtain ⟨out, s', h1, p2, hl, hf⟩ := compL_st E g r P rs (fun d' hd => h d' (List.mem_cons_of_mem _ hd)) _ p1
    refine ⟨r d s :: out, s', ?_, p2, by simp [hl], ?_⟩
    · unfold compL
      rw [z1]
      show (ts e1).bind _ = _
      rw [z2]
      show (el e2).bind _ = _
      rw [z3]
      show (compL tg ts el own rs (wipe1 e3 own)).bind _ = _
      rw [z4, h1]
      rfl
    · rw [List.foldl_cons]
      have gen : ∀ (xs : List PyData) (a b : List PyData) (t : S), xs.foldl (fun (q : List PyData × S) d => (q.1 ++ [r d q.2], g d q.2)) (a ++ b, t) = (a ++ (xs.foldl (fun (q : List PyData × S) d => (q.1 ++ [r d q.2], g d q.2)) (b, t)).1, (xs.foldl (fun (q : List PyData × S) d => (q.1 ++ [r d q.2], g d q.2)) (b, t)).2) := by
        intro xs
        induction xs with
        | nil => intro a b t; rfl
        | cons x xs ih =>
          intro a b t
          rw [List.foldl_cons, List.foldl_cons]
          dsimp only
          rw [List.append_assoc]
          exact ih a (b ++ [r x t]) (g x t)
      have := gen rs [r d s] [] (g d s)
      rw [List.append_nil] at this
      show rs.foldl _ ([] ++ [r d s], g d s) = _
      rw [List.nil_append, this, hf]
      rfl
/-- .. that changes nothing -/
theorem compL_map {tg : PyData → EnvD → Option EnvD} {ts : EnvD → Option (Bool × EnvD)} {el : EnvD → Option (PyData × EnvD)} {own : List Nat} (E : EnvD) (r : PyData → PyData) : ∀ (items : List PyData),
    (∀ d ∈ items, ∃ e1 e2 e3, tg d E = some e1 ∧ ts e1 = some (true, e2) ∧ el e2 = some (r d, e3) ∧ wipe1 e3 own = E) → compL tg ts el own items E = some (items.map r, E)
  | [], _ => rfl
  | d :: rs, h => by
    obtain ⟨e1, e2, e3, z1, z2, z3, z4⟩ := h d List.mem_cons_self
    unfold compL
    rw [z1]
    show (ts e1).bind _ = _
    rw [z2]
    show (el e2).bind _ = _
    rw [z3]
    show (compL tg ts el own rs (wipe1 e3 own)).bind _ = _
    rw [z4, compL_map E r rs fun d' hd => h d' (List.mem_cons_of_mem _ hd)]
    rfl
theorem allInts_of {xs : List Int} : allInts (xs.map PyData.int) = some xs := allInts_map xs
theorem ints1 {b : Int} (h : -1000000000000 ≤ b ∧ b ≤ 1000000000000) : ints3 [.int b] = some ((List.range b.toNat).map fun (k : Nat) => (k : Int)) := by
  exact if_pos h
theorem ints2 {a b : Int} (h : -1000000000000 ≤ a ∧ a ≤ 1000000000000 ∧ -1000000000000 ≤ b ∧ b ≤ 1000000000000) : ints3 [.int a, .int b] = some ((List.range (b - a).toNat).map fun (k : Nat) => a + (k : Int)) := by
  exact if_pos h
/-- a def told by its runs -/
theorem FnD.imp {P : Program} {w : World} {K : PySem.W.Frag} {mg : Str → Option Value} {base : Heap} {k : Nat} {f : Addr} {fd : FuncData} {ps : List Str} {g g' : Sig} (F : FnD P w K mg base k f fd ps (spD K g)) (hio : g'.io = g.io) (h : ∀ ds z, g'.run ds = some z → g.run ds = some z) : FnD P w K mg base k f fd ps (spD K g') := by
  have hs : ∀ vs H Q E, spD K g' vs H Q E → spD K g vs H Q E := fun vs H Q E q => by
    rcases q with ⟨a, G, ds, r, x, e1, e2, e3, e4⟩ | ⟨a, G, b, xs, ds0, ws, ds, r, x, e1, e2, e3, e4, e5, e6, e7, e8⟩
    · exact .inl ⟨hio ▸ a, G, ds, r, x, e1, e2, h _ _ e3, e4⟩
    · exact .inr ⟨hio ▸ a, G, b, xs, ds0, ws, ds, r, x, e1, e2, e3, e4, e5, e6, h _ _ e7, e8⟩
  exact ⟨fun vs H Q E q => F.len vs H Q E (hs _ _ _ _ q), fun A outer s H args us vs Q E hr hg e0 hb hv q => F.run A outer s H args us vs Q E hr hg e0 hb hv (hs _ _ _ _ q)⟩
end Pd

/-! the small language's runs, step by step -/
namespace Pd
open PySem PySem.Spec PyProof.Rows L2
section
variable {Γ : Tab} {n : Nat} {env e1 e2 e3 e4 : EnvD} {a b c : Ex} {o o1 o2 o3 : Opd} {x y : PyData}
theorem x_bin {op : Bop} {r : Rv} (h1 : evE Γ a env = some (o1, e1)) (h2 : evE Γ b e1 = some (o2, e2)) (h3 : res e2 o1 = some x) (h4 : res e2 o2 = some y) (h5 : binD op x y = some r) : evE Γ (.bin op a b) env = some (r.opd, e2) := by
  rw [evE, h1]; show (evE Γ b e1).bind _ = _; rw [h2]; show (res e2 o1).bind _ = _; rw [h3]; show (res e2 o2).bind _ = _; rw [h4]; show (binD op x y).bind _ = _; rw [h5]; rfl
theorem x_binV {op : Bop} {d : PyData} (h1 : evE Γ a env = some (o1, e1)) (h2 : evE Γ b e1 = some (o2, e2)) (h3 : res e2 o1 = some x) (h4 : res e2 o2 = some y) (h5 : binD op x y = some (.va d)) : evE Γ (.bin op a b) env = some (.va d, e2) := x_bin h1 h2 h3 h4 h5
theorem x_binO {op : Bop} {ds : List PyData} (h1 : evE Γ a env = some (o1, e1)) (h2 : evE Γ b e1 = some (o2, e2)) (h3 : res e2 o1 = some x) (h4 : res e2 o2 = some y) (h5 : binD op x y = some (.ow ds)) : evE Γ (.bin op a b) env = some (.ow ds, e2) := x_bin h1 h2 h3 h4 h5
theorem x_mul {i j : Int} (h1 : evE Γ a env = some (o1, e1)) (h2 : evE Γ b e1 = some (o2, e2)) (h3 : res e2 o1 = some (.int i)) (h4 : res e2 o2 = some (.int j)) (h5 : mulOk i j = true) : evE Γ (.bin .mul a b) env = some (.va (.int (i * j)), e2) :=
  x_bin (r := .va (.int (i * j))) h1 h2 h3 h4 (if_pos h5)
theorem x_fdiv {i j : Int} (h1 : evE Γ a env = some (o1, e1)) (h2 : evE Γ b e1 = some (o2, e2)) (h3 : res e2 o1 = some (.int i)) (h4 : res e2 o2 = some (.int j)) (h5 : divOk j = true) : evE Γ (.bin .fdiv a b) env = some (.va (.int (i / j)), e2) :=
  x_bin (r := .va (.int (i / j))) h1 h2 h3 h4 (if_pos h5)
theorem x_md {i j : Int} (h1 : evE Γ a env = some (o1, e1)) (h2 : evE Γ b e1 = some (o2, e2)) (h3 : res e2 o1 = some (.int i)) (h4 : res e2 o2 = some (.int j)) (h5 : 0 < j) : evE Γ (.bin .md a b) env = some (.va (.int (i % j)), e2) :=
  x_bin (r := .va (.int (i % j))) h1 h2 h3 h4 (if_pos h5)
theorem x_neg {i : Int} (h1 : evE Γ a env = some (.va (.int i), e1)) : evE Γ (.neg a) env = some (.va (.int (-i)), e1) := by
  rw [evE, h1]; rfl
theorem x_cmp {op : Cop} {t : Bool} (h1 : evE Γ a env = some (o1, e1)) (h2 : evE Γ b e1 = some (o2, e2)) (h3 : res e2 o1 = some x) (h4 : res e2 o2 = some y) (h5 : cmpD op x y = some t) : evE Γ (.cmp op a b) env = some (.va (.bool t), e2) := by
  rw [evE, h1]; show (evE Γ b e1).bind _ = _; rw [h2]; show (res e2 o1).bind _ = _; rw [h3]; show (res e2 o2).bind _ = _; rw [h4]; show (cmpD op x y).bind _ = _; rw [h5]; rfl
theorem x_isc {ng t : Bool} {d k : PyData} (h1 : evE Γ a env = some (.va d, e1)) (h2 : isD ng k d = some t) : evE Γ (.isc ng k a) env = some (.va (.bool t), e1) := by
  rw [evE, h1]; show (isD ng k d).bind _ = _; rw [h2]; rfl
theorem x_inn {ng t : Bool} (h1 : evE Γ a env = some (o1, e1)) (h2 : evE Γ b e1 = some (o2, e2)) (h3 : res e2 o1 = some x) (h4 : res e2 o2 = some y) (h5 : innD ng x y = some t) : evE Γ (.inn ng a b) env = some (.va (.bool t), e2) := by
  rw [evE, h1]; show (evE Γ b e1).bind _ = _; rw [h2]; show (res e2 o1).bind _ = _; rw [h3]; show (res e2 o2).bind _ = _; rw [h4]; show (innD ng x y).bind _ = _; rw [h5]; rfl
theorem x_and {t : Bool} {p : Opd × EnvD} (h1 : evE Γ a env = some (.va (.bool t), e1)) (h2 : (if t = true then evE Γ b e1 else some (.va (.bool false), e1)) = some p) : evE Γ (.and_ a b) env = some p := by
  rw [evE, h1]
  cases t with
  | true => exact h2
  | false => exact h2
theorem x_or {t : Bool} {p : Opd × EnvD} (h1 : evE Γ a env = some (.va (.bool t), e1)) (h2 : (if t = true then some (.va (.bool true), e1) else evE Γ b e1) = some p) : evE Γ (.or_ a b) env = some p := by
  rw [evE, h1]
  cases t with
  | true => exact h2
  | false => exact h2
/-- a or b, a false -/
theorem x_orF {p : Opd × EnvD} (h1 : evE Γ a env = some (.va (.bool false), e1)) (h2 : evE Γ b e1 = some p) : evE Γ (.or_ a b) env = some p := x_or h1 h2
theorem x_andT {p : Opd × EnvD} (h1 : evE Γ a env = some (.va (.bool true), e1)) (h2 : evE Γ b e1 = some p) : evE Γ (.and_ a b) env = some p := x_and h1 h2
theorem x_andF (h1 : evE Γ a env = some (.va (.bool false), e1)) : evE Γ (.and_ a b) env = some (.va (.bool false), e1) := x_and h1 rfl
theorem x_orT (h1 : evE Γ a env = some (.va (.bool true), e1)) : evE Γ (.or_ a b) env = some (.va (.bool true), e1) := x_or h1 rfl
theorem x_not {t : Bool} (h1 : evE Γ a env = some (.va (.bool t), e1)) : evE Γ (.not_ a) env = some (.va (.bool (!t)), e1) := by
  rw [evE, h1]; rfl
theorem x_ite {t : Bool} {p : Opd × EnvD} (h1 : evE Γ c env = some (.va (.bool t), e1)) (h2 : (if t = true then evE Γ a e1 else evE Γ b e1) = some p) : evE Γ (.ite c a b) env = some p := by
  rw [evE, h1]
  cases t with
  | true => exact h2
  | false => exact h2
theorem x_lst {es : Exs} {os : List Opd} {ds : List PyData} (h1 : evEs Γ es env = some (os, e1)) (h2 : frzs e1 os = some (ds, e2)) (h3 : ds.length ≤ 16777216) : evE Γ (.lst es) env = some (.ow ds, e2) := by
  rw [evE, h1]; show (frzs e1 os).bind _ = _; rw [h2]; exact if_pos h3
theorem x_tup {es : Exs} {os : List Opd} {ds : List PyData} (h1 : evEs Γ es env = some (os, e1)) (h2 : frzs e1 os = some (ds, e2)) (h3 : ds.length ≤ 16777216) : evE Γ (.tup es) env = some (.va (.tuple ds), e2) := by
  rw [evE, h1]; show (frzs e1 os).bind _ = _; rw [h2]; exact if_pos h3
theorem x_idx {d : PyData} (h1 : evE Γ a env = some (o1, e1)) (h2 : evE Γ b e1 = some (o2, e2)) (h3 : res e2 o1 = some x) (h4 : res e2 o2 = some y) (h5 : idxD x y = some d) : evE Γ (.idx a b) env = some (.va d, e2) := by
  rw [evE, h1]; show (evE Γ b e1).bind _ = _; rw [h2]; show (res e2 o1).bind _ = _; rw [h3]; show (res e2 o2).bind _ = _; rw [h4]; show (idxD x y).bind _ = _; rw [h5]; rfl
theorem x_slc {l u : Eo} {lo hi : Option Int} {r : Rv} (h1 : evE Γ a env = some (o1, e1)) (h2 : evO Γ l e1 = some (lo, e2)) (h3 : evO Γ u e2 = some (hi, e3)) (h4 : res e3 o1 = some x) (h5 : slcD x lo hi = some r) : evE Γ (.slc a l u) env = some (r.opd, e3) := by
  rw [evE, h1]; show (evO Γ l e1).bind _ = _; rw [h2]; show (evO Γ u e2).bind _ = _; rw [h3]; show (res e3 o1).bind _ = _; rw [h4]; show (slcD x lo hi).bind _ = _; rw [h5]; rfl
theorem x_bi {f : Bi} {es : Exs} {os : List Opd} {ds : List PyData} {r : Rv} (h1 : evEs Γ es env = some (os, e1)) (h2 : ress e1 os = some ds) (h3 : biD f ds = some r) : evE Γ (.bi f es) env = some (r.opd, e1) := by
  rw [evE, h1]; show (ress e1 os).bind _ = _; rw [h2]; show (biD f ds).bind _ = _; rw [h3]; rfl
theorem x_biV {f : Bi} {es : Exs} {os : List Opd} {ds : List PyData} {d : PyData} (h1 : evEs Γ es env = some (os, e1)) (h2 : ress e1 os = some ds) (h3 : biD f ds = some (.va d)) : evE Γ (.bi f es) env = some (.va d, e1) := x_bi h1 h2 h3
theorem x_biO {f : Bi} {es : Exs} {os : List Opd} {ds es' : List PyData} (h1 : evEs Γ es env = some (os, e1)) (h2 : ress e1 os = some ds) (h3 : biD f ds = some (.ow es')) : evE Γ (.bi f es) env = some (.ow es', e1) := x_bi h1 h2 h3
theorem x_slcV {l u : Eo} {lo hi : Option Int} {d : PyData} (h1 : evE Γ a env = some (o1, e1)) (h2 : evO Γ l e1 = some (lo, e2)) (h3 : evO Γ u e2 = some (hi, e3)) (h4 : res e3 o1 = some x) (h5 : slcD x lo hi = some (.va d)) : evE Γ (.slc a l u) env = some (.va d, e3) := x_slc h1 h2 h3 h4 h5
theorem x_slcO {l u : Eo} {lo hi : Option Int} {ds : List PyData} (h1 : evE Γ a env = some (o1, e1)) (h2 : evO Γ l e1 = some (lo, e2)) (h3 : evO Γ u e2 = some (hi, e3)) (h4 : res e3 o1 = some x) (h5 : slcD x lo hi = some (.ow ds)) : evE Γ (.slc a l u) env = some (.ow ds, e3) := x_slc h1 h2 h3 h4 h5
theorem x_isi {ts : List Ty} (h1 : evE Γ a env = some (o1, e1)) (h3 : res e1 o1 = some x) (h4 : (plainD x && decide (ts.length ≤ 100)) = true) : evE Γ (.isi ts a) env = some (.va (.bool (ts.any (isTy x))), e1) := by
  rw [evE, h1]; show (res e1 o1).bind _ = _; rw [h3]; exact if_pos h4
theorem x_call {f : Nat} {es ks : Exs} {pm : List Nat} {os ps : List Opd} {g : Sig} {ds as : List PyData} {r : Rv} {x : List PyData} (hg : Γ f = some g) (hio : g.io = false) (h1 : evEs Γ es env = some (os, e1)) (h2 : evEs Γ ks e1 = some (ps, e2)) (h3 : frzs e2 (os ++ ps) = some (ds, e3)) (h4 : perm ds pm = some as) (h5 : g.run as = some (r, x)) :
    evE Γ (.call f es ks pm) env = some (r.opd, e3) := by
  rw [evE, h1]; show (evEs Γ ks e1).bind _ = _; rw [h2]; show (Γ f).bind _ = _; rw [hg]; show callF g pm e2 (os ++ ps) = _
  unfold callF
  rw [hio]
  show (frzs e2 (os ++ ps)).bind _ = _
  rw [h3]; show (perm ds pm).bind _ = _; rw [h4]; show (g.run as).bind _ = _; rw [h5]; rfl
theorem x_callV {f : Nat} {es ks : Exs} {pm : List Nat} {os ps : List Opd} {fr : List PyData → Option (Rv × List PyData)} {ds as : List PyData} {d : PyData} {x : List PyData} (hg : Γ f = some ⟨false, fr⟩) (h1 : evEs Γ es env = some (os, e1)) (h2 : evEs Γ ks e1 = some (ps, e2)) (h3 : frzs e2 (os ++ ps) = some (ds, e3)) (h4 : perm ds pm = some as) (h5 : fr as = some (.va d, x)) :
    evE Γ (.call f es ks pm) env = some (.va d, e3) := x_call hg rfl h1 h2 h3 h4 h5
theorem x_callL {f : Nat} {es ks : Exs} {pm : List Nat} {os ps : List Opd} {fr : List PyData → Option (Rv × List PyData)} {ds as es' : List PyData} {x : List PyData} (hg : Γ f = some ⟨false, fr⟩) (h1 : evEs Γ es env = some (os, e1)) (h2 : evEs Γ ks e1 = some (ps, e2)) (h3 : frzs e2 (os ++ ps) = some (ds, e3)) (h4 : perm ds pm = some as) (h5 : fr as = some (.ow es', x)) :
    evE Γ (.call f es ks pm) env = some (.ow es', e3) := x_call hg rfl h1 h2 h3 h4 h5
/-- a call that changes the list of the name i -/
theorem x_callS {f i : Nat} {es : Exs} {pm : List Nat} {os : List Opd} {g : Sig} {dp ds x : List PyData} {r : Rv} {io : Bool} (hg : Γ f = some g) (hio : g.io = true) (h1 : evEs Γ es env = some (.sl i :: os, e1)) (hp : pm = List.range (os.length + 1)) (h3 : frzs e1 os = some (ds, e2)) (h4 : e2[i]? = some (if io then .io dp else .ow dp)) (h5 : g.run (.list dp :: ds) = some (r, x)) :
    evE Γ (.call f es .nil pm) env = some (r.opd, e2.set i (if io then .io x else .ow x)) := by
  subst hp
  rw [evE, h1]
  show (Γ f).bind _ = _
  rw [hg]
  show callF g _ e1 ((.sl i :: os) ++ []) = _
  rw [List.append_nil]
  unfold callF
  rw [hio]
  show (if List.range (os.length + 1) = List.range (os.length + 1) then _ else none) = _
  rw [if_pos rfl, h3]
  show (match e2[i]? with
      | some (.ow ds_1) => (g.run (.list ds_1 :: ds)).bind fun r => some (r.1.opd, e2.set i (.ow r.2))
      | some (.io ds_1) => (g.run (.list ds_1 :: ds)).bind fun r => some (r.1.opd, e2.set i (.io r.2))
      | _ => none) = _
  rw [h4]
  cases io with
  | true =>
    show (g.run (.list dp :: ds)).bind _ = _
    rw [h5]
    rfl
  | false =>
    show (g.run (.list dp :: ds)).bind _ = _
    rw [h5]
    rfl
theorem x_callSI {f i : Nat} {es : Exs} {pm : List Nat} {os : List Opd} {fr : List PyData → Option (Rv × List PyData)} {dp ds x : List PyData} {d : PyData} (hg : Γ f = some ⟨true, fr⟩) (h1 : evEs Γ es env = some (.sl i :: os, e1)) (hp : pm = List.range (os.length + 1)) (h3 : frzs e1 os = some (ds, e2)) (h4 : e2[i]? = some (.io dp)) (h5 : fr (.list dp :: ds) = some (.va d, x)) (h6 : e2.set i (.io x) = e3) :
    evE Γ (.call f es .nil pm) env = some (.va d, e3) := by
  subst h6
  exact x_callS (io := true) (r := .va d) hg rfl h1 hp h3 h4 h5
theorem x_callSL {f i : Nat} {es : Exs} {pm : List Nat} {os : List Opd} {fr : List PyData → Option (Rv × List PyData)} {dp ds x es' : List PyData} (hg : Γ f = some ⟨true, fr⟩) (h1 : evEs Γ es env = some (.sl i :: os, e1)) (hp : pm = List.range (os.length + 1)) (h3 : frzs e1 os = some (ds, e2)) (h4 : e2[i]? = some (.io dp)) (h5 : fr (.list dp :: ds) = some (.ow es', x)) (h6 : e2.set i (.io x) = e3) :
    evE Γ (.call f es .nil pm) env = some (.ow es', e3) := by
  subst h6
  exact x_callS (io := true) (r := .ow es') hg rfl h1 hp h3 h4 h5
/-- the list of the name i is one's own -/
theorem x_callSO {f i : Nat} {es : Exs} {pm : List Nat} {os : List Opd} {fr : List PyData → Option (Rv × List PyData)} {dp ds x : List PyData} {d : PyData} (hg : Γ f = some ⟨true, fr⟩) (h1 : evEs Γ es env = some (.sl i :: os, e1)) (hp : pm = List.range (os.length + 1)) (h3 : frzs e1 os = some (ds, e2)) (h4 : e2[i]? = some (.ow dp)) (h5 : fr (.list dp :: ds) = some (.va d, x)) (h6 : e2.set i (.ow x) = e3) :
    evE Γ (.call f es .nil pm) env = some (.va d, e3) := by
  subst h6
  exact x_callS (io := false) (r := .va d) hg rfl h1 hp h3 h4 h5
/-- .. that changes a list just made -/
theorem x_callO {f : Nat} {es : Exs} {pm : List Nat} {os : List Opd} {g : Sig} {dp ds x : List PyData} {r : Rv} (hg : Γ f = some g) (hio : g.io = true) (h1 : evEs Γ es env = some (.ow dp :: os, e1)) (hp : pm = List.range (os.length + 1)) (h3 : frzs e1 os = some (ds, e2)) (h5 : g.run (.list dp :: ds) = some (r, x)) :
    evE Γ (.call f es .nil pm) env = some (r.opd, e2) := by
  subst hp
  rw [evE, h1]
  show (Γ f).bind _ = _
  rw [hg]
  show callF g _ e1 ((.ow dp :: os) ++ []) = _
  rw [List.append_nil]
  unfold callF
  rw [hio]
  show (if List.range (os.length + 1) = List.range (os.length + 1) then _ else none) = _
  rw [if_pos rfl, h3]
  show (g.run (.list dp :: ds)).bind _ = _
  rw [h5]
  rfl
theorem x_callOV {f : Nat} {es : Exs} {pm : List Nat} {os : List Opd} {fr : List PyData → Option (Rv × List PyData)} {dp ds x : List PyData} {d : PyData} (hg : Γ f = some ⟨true, fr⟩) (h1 : evEs Γ es env = some (.ow dp :: os, e1)) (hp : pm = List.range (os.length + 1)) (h3 : frzs e1 os = some (ds, e2)) (h5 : fr (.list dp :: ds) = some (.va d, x)) :
    evE Γ (.call f es .nil pm) env = some (.va d, e2) := x_callO hg rfl h1 hp h3 h5
theorem x_mutO {m : Mut} {i : Nat} {es : Exs} {os : List Opd} {dp ds ds' : List PyData} {d : PyData} (h0 : isOwn env i = true) (h1 : evEs Γ es env = some (os, e1)) (h2 : frzs e1 os = some (ds, e2)) (h3 : e2[i]? = some (.ow dp)) (h4 : mutD m dp ds = some (ds', d)) (h5 : e2.set i (.ow ds') = e3) : evE Γ (.mut m i es) env = some (.va d, e3) := by
  subst h5
  rw [evE, if_pos h0, h1]
  show (frzs e1 os).bind _ = _
  rw [h2]
  show (match e2[i]? with
    | some (.ow dp) => (mutD m dp ds).bind fun r => some (Opd.va r.2, e2.set i (.ow r.1))
    | some (.io dp) => (mutD m dp ds).bind fun r => some (.va r.2, e2.set i (.io r.1))
    | _ => none) = _
  rw [h3]
  show (mutD m dp ds).bind _ = _
  rw [h4]
  rfl
theorem x_comp {el : Ex} {tg : Tg} {sr : Src} {ts : Exs} {own : List Nat} {items out : List PyData} {env2 : EnvD} (h1 : evS Γ sr env = some (items, e1)) (h2 : items.length < 16777216) (h3 : compL (fun d e => asgT Γ tg d e) (fun e => evAll Γ ts e) (fun e => (evE Γ el e).bind fun r => frz r.2 r.1) own items (wipe1 e1 own) = some (out, env2)) (h4 : back e1 own env2 = some e3) : evE Γ (.comp el tg sr ts own) env = some (.ow out, e3) := by
  rw [evE, h1]
  show (if items.length < 16777216 then _ else none) = _
  rw [if_pos h2, h3]
  show (back e1 own env2).bind _ = _
  rw [h4]
  rfl
theorem x_reprL {es : Exs} {os : List Opd} {ds : List PyData} (h1 : evEs Γ es env = some (os, e1)) (h2 : ress e1 os = some ds) (h3 : reprOk (.list ds) = true) : evE Γ (.reprL es) env = some (.va (.str (PyData.list ds).shown), e1) := by
  rw [evE, h1]; show (ress e1 os).bind _ = _; rw [h2]; exact if_pos h3
theorem xs_nil : evEs Γ .nil env = some ([], env) := by rw [evEs]
theorem xs_cons {es : Exs} {os : List Opd} (h1 : evE Γ a env = some (o, e1)) (h2 : evEs Γ es e1 = some (os, e2)) : evEs Γ (.cons a es) env = some (o :: os, e2) := by
  rw [evEs, h1]; show (evEs Γ es e1).bind _ = _; rw [h2]; rfl
theorem xo_no : evO Γ .no env = some (none, env) := by rw [evO]
theorem xo_yes {i : Int} (h1 : evE Γ a env = some (.va (.int i), e1)) : evO Γ (.yes a) env = some (some i, e1) := by
  rw [evO, h1]; rfl
theorem xr_ex {d : PyData} {ds : List PyData} (h1 : evE Γ a env = some (o, e1)) (h2 : frz e1 o = some (d, e2)) (h3 : items d = some ds) : evS Γ (.ex a) env = some (ds, e2) := by
  rw [evS, h1]; show (frz e1 o).bind _ = _; rw [h2]; show (items d).bind _ = _; rw [h3]; rfl
theorem xr_rng {es : Exs} {os : List Opd} {ds : List PyData} {ns : List Int} (h1 : evEs Γ es env = some (os, e1)) (h2 : ress e1 os = some ds) (h3 : ints3 ds = some ns) : evS Γ (.rng es) env = some (ns.map .int, e1) := by
  rw [evS, h1]; show (ress e1 os).bind _ = _; rw [h2]; show (ints3 ds).bind _ = _; rw [h3]; rfl
theorem xr_enum {d : PyData} {ds : List PyData} (h1 : evE Γ a env = some (o, e1)) (h2 : frz e1 o = some (d, e2)) (h3 : items d = some ds) : evS Γ (.enum a) env = some (enumF 0 ds, e2) := by
  rw [evS, h1]; show (frz e1 o).bind _ = _; rw [h2]; show (items d).bind _ = _; rw [h3]; rfl
theorem xr_zip {ds : List PyData} (h1 : evE Γ a env = some (o1, e1)) (h2 : evE Γ b e1 = some (o2, e2)) (h3 : frzs e2 [o1, o2] = some ([x, y], e3)) (h4 : zipD x y = some ds) : evS Γ (.zip a b) env = some (ds, e3) := by
  rw [evS, h1]; show (evE Γ b e1).bind _ = _; rw [h2]; show (frzs e2 [o1, o2]).bind _ = _; rw [h3]; show (zipD x y).bind _ = _; rw [h4]; rfl
/-! statements -/
variable {s : Sm} {ss sa sb : Sms} {out : Out}
theorem y_nil : exSs Γ n .nil env = some (.nx env) := by rw [exSs]
theorem y_nx (h1 : exS Γ n s env = some (.nx e1)) (h2 : exSs Γ n ss e1 = some out) : exSs Γ n (.cons s ss) env = some out := by
  rw [exSs, h1]; exact h2
theorem y_rt {r : Rv} (h1 : exS Γ n s env = some (.rt r e1)) : exSs Γ n (.cons s ss) env = some (.rt r e1) := by
  rw [exSs, h1]; rfl
theorem y_exp (h1 : evE Γ a env = some (o, e1)) : exS Γ n (.exp a) env = some (.nx e1) := by
  rw [exS, h1]; rfl
theorem y_asgV {i : Nat} {d : PyData} {mv : Bool} (h1 : evE Γ a env = some (.va d, e1)) (h2 : (decide (i < e1.length)) = true) (h3 : e1.set i (.va d) = e2) : exS Γ n (.asg i a mv) env = some (.nx e2) := by
  subst h3
  rw [exS, h1]; exact if_pos (of_decide_eq_true h2)
theorem y_asgO {i : Nat} {ds : List PyData} {mv : Bool} (h1 : evE Γ a env = some (.ow ds, e1)) (h2 : (decide (i < e1.length)) = true) (h3 : e1.set i (.ow ds) = e2) : exS Γ n (.asg i a mv) env = some (.nx e2) := by
  subst h3
  rw [exS, h1]; exact if_pos (of_decide_eq_true h2)
theorem y_asgT {tg : Tg} {d : PyData} (h1 : evE Γ a env = some (o, e1)) (h2 : frz e1 o = some (d, e2)) (h3 : asgT Γ tg d e2 = some e3) : exS Γ n (.asgT tg a) env = some (.nx e3) := by
  rw [exS, h1]; show (frz e1 o).bind _ = _; rw [h2]; show (asgT Γ tg d e2).bind _ = _; rw [h3]; rfl
theorem y_par {is : List Nat} {es : Exs} {os os' : List Opd} (h1 : evEs Γ es env = some (os, e1)) (h2 : frzSl e1 os = some (os', e2)) (h3 : setAll is os' e2 = some e3) : exS Γ n (.par is es) env = some (.nx e3) := by
  rw [exS, h1]; show (frzSl e1 os).bind _ = _; rw [h2]; show (setAll is os' e2).bind _ = _; rw [h3]; rfl
theorem y_retV {d : PyData} (h1 : evE Γ a env = some (.va d, e1)) : exS Γ n (.ret a) env = some (.rt (.va d) e1) := by
  rw [exS, h1]; rfl
theorem y_retO {ds : List PyData} (h1 : evE Γ a env = some (.ow ds, e1)) : exS Γ n (.ret a) env = some (.rt (.ow ds) e1) := by
  rw [exS, h1]; rfl
theorem y_retS {i : Nat} {ds : List PyData} (h1 : evE Γ a env = some (.sl i, e1)) (h2 : e1[i]? = some (.ow ds)) (h3 : e1.set i .no = e2) : exS Γ n (.ret a) env = some (.rt (.ow ds) e2) := by
  subst h3
  rw [exS, h1]
  show (match e1[i]? with
    | some (.ow ds) => some (Out.rt (.ow ds) (e1.set i .no))
    | _ => none) = _
  rw [h2]
theorem y_if {t : Bool} (h1 : evE Γ c env = some (.va (.bool t), e1)) (h2 : (if t = true then exSs Γ n sa e1 else exSs Γ n sb e1) = some out) : exS Γ n (.ite c sa sb) env = some out := by
  rw [exS, h1]
  cases t with
  | true => exact h2
  | false => exact h2
theorem y_ifF (h1 : evE Γ c env = some (.va (.bool false), e1)) (h2 : exSs Γ n sb e1 = some out) : exS Γ n (.ite c sa sb) env = some out := y_if h1 h2
theorem y_ifT (h1 : evE Γ c env = some (.va (.bool true), e1)) (h2 : exSs Γ n sa e1 = some out) : exS Γ n (.ite c sa sb) env = some out := y_if h1 h2
theorem y_for {tg : Tg} {sr : Src} {b : Sms} {items : List PyData} (h1 : evS Γ sr env = some (items, e1)) (h2 : forL (fun d e => asgT Γ tg d e) (fun e => exSs Γ n b e) items e1 = some out) : exS Γ n (.for_ tg sr b) env = some out := by
  rw [exS, h1]; exact h2
theorem y_whl {b : Sms} (h1 : whlL (fun e => (evE Γ c e).bind fun p => (truth p.1).bind fun t => some (t, p.2)) (fun e => exSs Γ n b e) n env = some out) : exS Γ n (.whl c b) env = some out := by
  rw [exS]; exact h1
theorem y_run {io : Bool} {nl : Nat} {b : Sms} {args : List PyData} {z : Rv × List PyData} (h1 : exSs Γ n b (env0 io nl args) = some out) (h2 : outD io out = some z) : runD Γ n io nl b args = some z := by
  unfold runD
  rw [h1]
  exact h2
end
end Pd

/-! what the program's small defs do on data: drawing, bounds, choices -/
namespace Pd
open PySem PySem.Spec PyProof.Rows L2
abbrev nF : Nat := 1000
abbrev Run := List PyData → Option (Rv × List PyData)
/-- f is what the def does -/
def Does (f : Run) (Γ : Tab) (io : Bool) (nl : Nat) (ir : Sms) : Prop := ∀ ds z, f ds = some z → runD Γ nF io nl ir ds = some z

/-! ### is_integer, is_within, is_list, want .. -/
def irInt : Sms := (.cons (.ret (.and_ (.isi [.int] (.var 0)) (.not_ (.isi [.bool] (.var 0))))) .nil)
def fInt : Run
  | [.int _] => some (.va (.bool true), [])
  | _ => none
theorem does_int {Γ : Tab} : Does fInt Γ false 1 irInt := by
  intro ds z h
  unfold fInt at h
  split at h
  · cases h
    rfl
  · cases h
def irWithin (k : Nat) : Sms := (.cons (.ret (.and_ (.call k (.cons (.var 0) .nil) .nil [0]) (.chn .le .le (.var 1) (.var 0) (.var 2)))) .nil)
def fWithin : Run
  | [.int v, .int lo, .int hi] => some (.va (.bool (decide (lo ≤ v) && decide (v ≤ hi))), [])
  | _ => none
theorem does_within {Γ : Tab} {k : Nat} (h1 : Γ k = some ⟨false, fInt⟩) : Does fWithin Γ false 3 (irWithin k) := by
  intro ds z h
  unfold fWithin at h
  split at h
  · rename_i v lo hi
    cases h
    by_cases h2 : lo ≤ v <;> simp [runD, env0, irWithin, exSs, exS, evE, evEs, h1, callF, frzs, frz, perm, fInt, truth, res, cmpD, outD, Rv.opd, h2] <;> rfl
  · cases h
def irList : Sms := (.cons (.ret (.isi [.list, .tuple] (.var 0))) .nil)
def fList : Run
  | [.list _] => some (.va (.bool true), [])
  | [.tuple _] => some (.va (.bool true), [])
  | _ => none
theorem does_list {Γ : Tab} : Does fList Γ false 1 irList := by
  intro ds z h
  unfold fList at h
  split at h
  · cases h
    rfl
  · cases h
    rfl
  · cases h
/-- want_..(x): x from lo to hi -/
def irWant (k : Nat) (lo hi : Int) : Sms := (.cons (.ite (.not_ (.call k (.cons (.var 0) (.cons (.cst (.int lo)) (.cons (.cst (.int hi)) .nil))) .nil [0, 1, 2])) (.cons .stop .nil) .nil) .nil)
def fWant (lo hi : Int) : Run
  | [.int v] => if lo ≤ v ∧ v ≤ hi then some (.va .none, []) else none
  | _ => none
theorem does_want {Γ : Tab} {k : Nat} {lo hi : Int} (h1 : Γ k = some ⟨false, fWithin⟩) : Does (fWant lo hi) Γ false 1 (irWant k lo hi) := by
  intro ds z h
  unfold fWant at h
  split at h
  · split at h
    · rename_i v hv
      cases h
      simp [runD, env0, irWant, exSs, exS, evE, evEs, h1, callF, frzs, frz, perm, fWithin, truth, hv.1, hv.2, outD, Rv.opd]
      try rfl
    · cases h
  · cases h
/-- want_count(x, most) -/
def irCount (k : Nat) : Sms := (.cons (.ite (.not_ (.call k (.cons (.var 0) (.cons (.cst (.int (0))) (.cons (.var 1) .nil))) .nil [0, 1, 2])) (.cons .stop .nil) .nil) .nil)
def fCount : Run
  | [.int v, .int m] => if 0 ≤ v ∧ v ≤ m then some (.va .none, []) else none
  | _ => none
theorem does_count {Γ : Tab} {k : Nat} (h1 : Γ k = some ⟨false, fWithin⟩) : Does fCount Γ false 2 (irCount k) := by
  intro ds z h
  unfold fCount at h
  split at h
  · split at h
    · rename_i v m hv
      cases h
      simp [runD, env0, irCount, exSs, exS, evE, evEs, h1, callF, frzs, frz, perm, fWithin, truth, hv.1, hv.2, outD, Rv.opd]
      try rfl
    · cases h
  · cases h

/-! ### drawing -/
/-- the pot -/
abbrev potD (a b : Int) : List PyData := [.int a, .int b]
def bOk (b : Int) : Prop := 0 ≤ b ∧ b < 2147483588
instance {b : Int} : Decidable (bOk b) := by unfold bOk; infer_instance
def irDraw (q : Int) : Sms := (.cons (.ite (.cmp .gt (.idx (.var 0) (.cst (.int (0)))) (.cst (.int (0)))) (.cons (.asgT (.tp (.cons (.sb 0 (.cst (.int (0)))) (.cons (.nm 2) .nil))) (.bi .divmod (.cons (.idx (.var 0) (.cst (.int (0)))) (.cons (.var 1) .nil)))) (.cons (.ret (.var 2)) .nil)) .nil) (.cons (.asgT (.sb 0 (.cst (.int (1)))) (.bin .md (.bi .int (.cons (.bin .add (.bin .mul (.idx (.var 0) (.cst (.int (1)))) (.cst (.int (39373)))) (.cst (.int q))) .nil)) (.cst (.int (2147483587))))) (.cons (.ret (.bin .md (.bi .int (.cons (.bin .fdiv (.bin .md (.bi .int (.cons (.bin .mul (.idx (.var 0) (.cst (.int (1)))) (.idx (.var 0) (.cst (.int (1))))) .nil)) (.cst (.int (2147483563)))) (.cst (.int (19)))) .nil)) (.var 1))) .nil)))
/-- a digit, and the pot behind it -/
def draw (q : Int) (p : Int × Int) (m : Int) : Int × (Int × Int) :=
  if 0 < p.1 then (p.1 % m, (p.1 / m, p.2))
  else
    let b := (p.2 * 39373 + q) % 2147483587
    (b * b % 2147483563 / 19 % m, (p.1, b))
def fDraw (q : Int) : Run
  | [.list [.int a, .int b], .int m] => if bOk b ∧ 0 < m ∧ m < 2 ^ 200 then some (.va (.int (draw q (a, b) m).1), potD (draw q (a, b) m).2.1 (draw q (a, b) m).2.2) else none
  | _ => none
theorem bOk_draw {q : Int} {p : Int × Int} {m : Int} (h : bOk p.2) : bOk (draw q p m).2.2 := by
  unfold draw
  split
  · exact h
  · unfold bOk
    dsimp only
    omega
theorem draw_lt {q : Int} {p : Int × Int} {m : Int} (hm : 0 < m) : 0 ≤ (draw q p m).1 ∧ (draw q p m).1 < m := by
  unfold draw
  split
  · exact ⟨Int.emod_nonneg _ (by omega), Int.emod_lt_of_pos _ hm⟩
  · exact ⟨Int.emod_nonneg _ (by omega), Int.emod_lt_of_pos _ hm⟩
theorem mulOk_of {i j : Int} (a b : Nat) (h1 : i.natAbs < 2 ^ a) (h2 : j.natAbs < 2 ^ b) (h : a + b < 1000000) : mulOk i j = true := by
  unfold mulOk
  have := log2_le h1
  have := log2_le h2
  exact decide_eq_true (by omega)
theorem divOk_of {j : Int} (b : Nat) (h0 : 0 < j) (h2 : j.natAbs < 2 ^ b) (h : b < 9000) : divOk j = true := by
  unfold divOk
  have := log2_le h2
  rw [decide_eq_true h0, decide_eq_true (by omega)]
  rfl
theorem does_draw {Γ : Tab} {q : Int} : Does (fDraw q) Γ true 3 (irDraw q) := by
  intro ds z h
  unfold fDraw at h
  split at h
  · rename_i a b m
    split at h
    · rename_i hh
      obtain ⟨hb, hm, hm2⟩ := hh
      cases h
      have hd : divOk m = true := divOk_of 200 hm (by omega) (by omega)
      by_cases ha : 0 < a
      · have e : draw q (a, b) m = (a % m, (a / m, b)) := if_pos ha
        rw [e]
        refine y_run (y_rt (y_ifT (x_cmp rfl rfl rfl rfl (congrArg some (decide_eq_true ha))) (y_nx (y_asgT (x_biV (xs_cons rfl (xs_cons rfl xs_nil)) rfl (if_pos hd)) rfl rfl) (y_rt (y_retV rfl))))) rfl
      · have hb2 : bOk ((b * 39373 + q) % 2147483587) := by
          unfold bOk
          omega
        have m1 : mulOk b 39373 = true := mulOk_of 32 16 (by unfold bOk at hb; omega) (by decide) (by omega)
        have m2 : mulOk ((b * 39373 + q) % 2147483587) ((b * 39373 + q) % 2147483587) = true := mulOk_of 32 32 (by unfold bOk at hb2; omega) (by unfold bOk at hb2; omega) (by omega)
        have e : draw q (a, b) m = ((b * 39373 + q) % 2147483587 * ((b * 39373 + q) % 2147483587) % 2147483563 / 19 % m, (a, (b * 39373 + q) % 2147483587)) := if_neg ha
        rw [e]
        refine y_run (y_nx (y_ifF (x_cmp rfl rfl rfl rfl (congrArg some (decide_eq_false ha))) y_nil) (y_nx (y_asgT (d := .int ((b * 39373 + q) % 2147483587)) (x_md (x_biV (xs_cons (x_binV (x_mul rfl rfl rfl rfl m1) rfl rfl rfl rfl) xs_nil) rfl rfl) rfl rfl rfl (by omega)) rfl rfl) (y_rt (y_retV (x_md (x_biV (xs_cons (x_fdiv (x_md (x_biV (xs_cons (x_mul rfl rfl rfl rfl m2) xs_nil) rfl rfl) rfl rfl rfl (by omega)) rfl rfl rfl (by decide)) xs_nil) rfl rfl) rfl rfl rfl hm))))) rfl
    · cases h
  · cases h
end Pd

/-! choices -/
namespace Pd
open PySem PySem.Spec PyProof.Rows L2
def ch : Nat → Nat → Nat
  | _, 0 => 1
  | 0, _ + 1 => 0
  | n + 1, k + 1 => ch n k + ch n (k + 1)
theorem ch_zero (n : Nat) : ch n 0 = 1 := by cases n <;> rfl
theorem ch_gt : ∀ {n k : Nat}, n < k → ch n k = 0
  | 0, k + 1, _ => rfl
  | n + 1, k + 1, h => by
    rw [ch, ch_gt (by omega), ch_gt (by omega)]
theorem ch_abs : ∀ n k : Nat, (k + 1) * ch (n + 1) (k + 1) = (n + 1) * ch n k
  | 0, 0 => rfl
  | 0, k + 1 => by
    show (k + 1 + 1) * (0 + 0) = (0 + 1) * 0
    simp
  | n + 1, 0 => by
    have h := ch_abs n 0
    have e1 : ch (n + 2) 1 = ch (n + 1) 0 + ch (n + 1) 1 := rfl
    have e2 : ch (n + 1) 0 = 1 := rfl
    have e3 : ch n 0 = 1 := ch_zero n
    rw [e3] at h
    show (0 + 1) * ch (n + 2) 1 = (n + 1 + 1) * ch (n + 1) 0
    rw [e1, e2]
    have h' : (0 + 1) * ch (n + 1) 1 = (n + 1) * 1 := h
    omega
  | n + 1, k + 1 => by
    have h1 := ch_abs n k
    have h2 := ch_abs n (k + 1)
    have e1 : ch (n + 2) (k + 2) = ch (n + 1) (k + 1) + ch (n + 1) (k + 2) := rfl
    have e2 : ch (n + 1) (k + 1) = ch n k + ch n (k + 1) := rfl
    rw [e1]
    calc (k + 1 + 1) * (ch (n + 1) (k + 1) + ch (n + 1) (k + 2)) = ch (n + 1) (k + 1) + (k + 1) * ch (n + 1) (k + 1) + (k + 1 + 1) * ch (n + 1) (k + 1 + 1) := by
          rw [Nat.mul_add, Nat.add_mul (k + 1) 1 (ch (n + 1) (k + 1)), Nat.one_mul, Nat.add_comm ((k + 1) * ch (n + 1) (k + 1))]
      _ = ch (n + 1) (k + 1) + (n + 1) * ch n k + (n + 1) * ch n (k + 1) := by rw [h1, h2]
      _ = (n + 1 + 1) * ch (n + 1) (k + 1) := by
          rw [Nat.add_assoc, ← Nat.mul_add, ← e2, Nat.add_mul (n + 1) 1, Nat.one_mul, Nat.add_comm]
theorem ch_step (n k : Nat) : ch n (k + 1) * (k + 1) = ch n k * (n - k) := by
  by_cases h : n < k
  · rw [ch_gt h, ch_gt (by omega)]
    simp
  · have h1 := ch_abs n k
    have e2 : ch (n + 1) (k + 1) = ch n k + ch n (k + 1) := rfl
    rw [e2, Nat.mul_add] at h1
    have e3 : (n + 1) * ch n k = (k + 1) * ch n k + (n - k) * ch n k := by
      rw [← Nat.add_mul]
      congr 1
      omega
    rw [Nat.mul_comm, Nat.mul_comm (ch n k)]
    omega
theorem ch_self : ∀ n : Nat, ch n n = 1
  | 0 => rfl
  | n + 1 => by
    rw [ch, ch_self n, ch_gt (by omega)]
theorem ch_symm : ∀ {n k : Nat}, k ≤ n → ch n k = ch n (n - k)
  | 0, 0, _ => rfl
  | n + 1, 0, _ => by rw [ch_zero, Nat.sub_zero, ch_self]
  | n + 1, k + 1, h => by
    by_cases hk : k = n
    · subst hk
      rw [ch_self, Nat.sub_self, ch_zero]
    · have e1 : n + 1 - (k + 1) = (n - k - 1) + 1 := by omega
      rw [e1, ch, ch, ch_symm (show k ≤ n by omega), ch_symm (show k + 1 ≤ n by omega)]
      rw [show n - (k + 1) = n - k - 1 by omega, show n - k - 1 + 1 = n - k by omega, Nat.add_comm]
theorem ch_le : ∀ n k : Nat, ch n k ≤ n ^ k
  | n, 0 => by rw [ch_zero, Nat.pow_zero]; exact Nat.le_refl _
  | n, k + 1 => by
    have h1 := ch_step n k
    have h2 := ch_le n k
    have h3 : ch n (k + 1) ≤ ch n (k + 1) * (k + 1) := Nat.le_mul_of_pos_right _ (Nat.succ_pos _)
    calc ch n (k + 1) ≤ ch n k * (n - k) := by rw [← h1]; exact h3
      _ ≤ n ^ k * n := Nat.mul_le_mul h2 (Nat.sub_le _ _)
      _ = n ^ (k + 1) := by rw [Nat.pow_succ]
def irChoose : Sms := (.cons (.ite (.cmp .gt (.var 1) (.var 0)) (.cons (.ret (.cst (.int (0)))) .nil) .nil) (.cons (.asg 2 (.cst (.int (1))) false) (.cons (.for_ (.nm 3) (.rng (.cons (.bi .min (.cons (.var 1) (.cons (.bin .sub (.var 0) (.var 1)) .nil))) .nil)) (.cons (.asg 2 (.bin .fdiv (.bin .mul (.var 2) (.bin .sub (.var 0) (.var 3))) (.bin .add (.var 3) (.cst (.int (1))))) false) .nil)) (.cons (.ret (.var 2)) .nil))))
def fChoose : Run
  | [.int n, .int k] => if 0 ≤ n ∧ n < 2 ^ 64 ∧ 0 ≤ k ∧ k < 2 ^ 64 ∧ (k ≤ n → k ≤ 1000 ∨ n - k ≤ 1000) then some (.va (.int (ch n.toNat k.toNat)), []) else none
  | _ => none
theorem pow_lt_bits {n : Nat} (h : n < 2 ^ 64) (k : Nat) : n ^ k ≤ 2 ^ (64 * k) := by
  rw [Nat.pow_mul]
  exact Nat.pow_le_pow_left (Nat.le_of_lt h) k
theorem items_nat (m : Nat) : ((List.range m).map fun (k : Nat) => (k : Int)).map PyData.int = (List.range' 0 m).map fun (k : Nat) => PyData.int (k : Int) := by
  rw [List.map_map, List.range_eq_range']
  rfl
theorem does_choose {Γ : Tab} : Does fChoose Γ false 4 irChoose := by
  intro ds z h
  unfold fChoose at h
  split at h
  · rename_i n k
    split at h
    · rename_i hh
      obtain ⟨hn, hn2, hk, hk2, hm⟩ := hh
      cases h
      obtain ⟨n, rfl⟩ := Int.eq_ofNat_of_zero_le hn
      obtain ⟨k, rfl⟩ := Int.eq_ofNat_of_zero_le hk
      have hn2 : n < 2 ^ 64 := by omega
      by_cases hkn : n < k
      · have hc : cmpD .gt (.int (k : Int)) (.int (n : Int)) = some true := congrArg some (decide_eq_true (by omega))
        have e : ch (n : Int).toNat (k : Int).toNat = 0 := by
          rw [Int.toNat_natCast, Int.toNat_natCast]
          exact ch_gt hkn
        rw [e]
        exact y_run (y_rt (y_ifT (x_cmp rfl rfl rfl rfl hc) (y_rt (y_retV rfl)))) rfl
      · have hkn : k ≤ n := by omega
        have hc : cmpD .gt (.int (k : Int)) (.int (n : Int)) = some false := congrArg some (decide_eq_false (by omega))
        -- how often
        have hmin : ∃ m : Nat, (if (n : Int) - k < k then (n : Int) - k else (k : Int)) = m ∧ m ≤ 1000 ∧ ch n k = ch n m := by
          have hm := hm (by omega)
          by_cases h : (n : Int) - k < k
          · refine ⟨n - k, by rw [if_pos h]; omega, by omega, ch_symm hkn⟩
          · refine ⟨k, by rw [if_neg h], by omega, rfl⟩
        obtain ⟨m, em, hm1, hchm⟩ := hmin
        rw [Int.toNat_natCast, Int.toNat_natCast, hchm]
        have hmn : biD .min [.int (k : Int), .int ((n : Int) - k)] = some (.va (.int m)) := by
          show some (Rv.va (.int (if (n : Int) - k < k then (n : Int) - k else (k : Int)))) = _
          rw [em]
        obtain ⟨x', hx⟩ := forL_range (tg := fun d e => asgT Γ (.nm 3) d e) (b := fun e => exSs Γ nF (.cons (.asg 2 (.bin .fdiv (.bin .mul (.var 2) (.bin .sub (.var 0) (.var 3))) (.bin .add (.var 3) (.cst (.int (1))))) false) .nil) e)
          (fun (x : Cell) (s : Int) => [.va (.int (n : Int)), .va (.int (k : Int)), .va (.int s), x]) (fun i => (ch n i : Int)) (fun i => .int (i : Int)) m 0 (fun i _ hi x => ⟨.va (.int (i : Int)), by
            have hi : i < m := by omega
            have e1 : (ch n i : Int) * ((n : Int) - i) / ((i : Int) + 1) = (ch n (i + 1) : Int) := by
              have h1 : (ch n i : Int) * ((n : Int) - i) = (ch n (i + 1) : Int) * ((i : Int) + 1) := by
                by_cases hin : i ≤ n
                · have := ch_step n i
                  have e : ((n - i : Nat) : Int) = (n : Int) - i := by omega
                  rw [← e, ← Int.natCast_mul, ← this, Int.natCast_mul]
                  rfl
                · rw [ch_gt (by omega), ch_gt (by omega)]
                  simp
              rw [h1]
              exact Int.mul_ediv_cancel _ (by omega)
            have m1 : mulOk (ch n i : Int) ((n : Int) - i) = true := by
              have b1 : ch n i ≤ 2 ^ (64 * i) := Nat.le_trans (ch_le n i) (pow_lt_bits hn2 i)
              have b2 : (2 : Nat) ^ (64 * i) < 2 ^ 64001 := Nat.pow_lt_pow_right (by omega) (by omega)
              refine mulOk_of 64001 65 (by rw [Int.natAbs_natCast]; omega) ?_ (by omega)
              have : ((n : Int) - i).natAbs < 2 ^ 64 + 1001 := by omega
              omega
            have d1 : divOk ((i : Int) + 1) = true := divOk_of 64 (by omega) (by omega) (by omega)
            show exSs Γ nF _ [.va (.int (n : Int)), .va (.int (k : Int)), .va (.int (ch n i : Int)), .va (.int (i : Int))] = _
            rw [← e1]
            exact y_nx (y_asgV (x_fdiv (x_mul rfl (x_binV rfl rfl rfl rfl rfl) rfl rfl m1) (x_binV rfl rfl rfl rfl rfl) rfl rfl d1) rfl rfl) y_nil⟩) .no
        rw [ch_zero] at hx
        rw [Nat.zero_add] at hx
        have hsrc : evS Γ (.rng (.cons (.bi .min (.cons (.var 1) (.cons (.bin .sub (.var 0) (.var 1)) .nil))) .nil)) [.va (.int (n : Int)), .va (.int (k : Int)), .va (.int 1), .no] = some ((List.range' 0 m).map fun (k : Nat) => PyData.int (k : Int), [.va (.int (n : Int)), .va (.int (k : Int)), .va (.int 1), .no]) := by
          rw [← items_nat]
          have hi : ints3 [.int (m : Int)] = some ((List.range m).map fun (k : Nat) => (k : Int)) := ints1 (b := (m : Int)) (by omega)
          exact xr_rng (xs_cons (x_biV (xs_cons rfl (xs_cons (x_binV rfl rfl rfl rfl rfl) xs_nil)) rfl hmn) xs_nil) rfl hi
        exact y_run (out := .rt (.va (.int (ch n m))) [.va (.int (n : Int)), .va (.int (k : Int)), .va (.int (ch n m)), x']) (y_nx (e1 := [.va (.int (n : Int)), .va (.int (k : Int)), .no, .no]) (y_ifF (x_cmp rfl rfl rfl rfl hc) y_nil)
          (y_nx (e1 := [.va (.int (n : Int)), .va (.int (k : Int)), .va (.int 1), .no]) (y_asgV rfl rfl rfl) (y_nx (y_for hsrc hx) (y_rt (y_retV rfl))))) rfl
    · cases h
  · cases h
end Pd

/-! sums by choices, heads -/
namespace Pd
open PySem PySem.Spec PyProof.Rows L2
section
variable {Γ : Tab}
theorem comp_gen {env e1 e3 W : EnvD} {el : Ex} {tg : Tg} {sr : Src} {own : List Nat} {items : List PyData} (r : PyData → PyData) (h1 : evS Γ sr env = some (items, e1)) (h2 : items.length < 16777216) (hw : wipe1 e1 own = W)
    (h3 : ∀ d ∈ items, ∃ ea o eb ec, asgT Γ tg d W = some ea ∧ evE Γ el ea = some (o, eb) ∧ frz eb o = some (r d, ec) ∧ wipe1 ec own = W) (h4 : back e1 own W = some e3) : evE Γ (.comp el tg sr .nil own) env = some (.ow (items.map r), e3) := by
  refine x_comp h1 h2 ?_ h4
  rw [hw]
  refine compL_map W r items fun d hd => ?_
  obtain ⟨ea, o, eb, ec, z1, z2, z3, z4⟩ := h3 d hd
  refine ⟨ea, ea, ec, z1, by rw [evAll], ?_, z4⟩
  show (evE Γ el ea).bind _ = _
  rw [z2]
  exact z3
def mi (f : Nat → Int → Int) : Nat → List Int → List Int
  | _, [] => []
  | k, x :: xs => f k x :: mi f (k + 1) xs
theorem mi_len (f : Nat → Int → Int) : ∀ (k : Nat) (xs : List Int), (mi f k xs).length = xs.length
  | _, [] => rfl
  | k, x :: xs => by
    rw [mi, List.length_cons, List.length_cons, mi_len f (k + 1) xs]
theorem enum_mem : ∀ {xs : List Int} {k : Nat} {d : PyData}, d ∈ enumF k (xs.map PyData.int) → ∃ (i : Nat) (v : Int), d = .tuple [.int ((k + i : Nat) : Int), .int v] ∧ xs[i]? = some v
  | [], k, d, h => by cases h
  | x :: xs, k, d, h => by
    have h : d ∈ PyData.tuple [.int (k : Int), .int x] :: enumF (k + 1) (xs.map PyData.int) := h
    rcases List.mem_cons.mp h with z | z
    · exact ⟨0, x, z, rfl⟩
    · obtain ⟨i, v, e, h2⟩ := enum_mem z
      refine ⟨i + 1, v, ?_, h2⟩
      rw [e, show k + 1 + i = k + (i + 1) by omega]
theorem enum_map (f : Nat → Int → Int) (r : PyData → PyData) (hr : ∀ (i : Nat) (v : Int), r (.tuple [.int (i : Int), .int v]) = .int (f i v)) : ∀ (xs : List Int) (k : Nat), (enumF k (xs.map PyData.int)).map r = (mi f k xs).map PyData.int
  | [], _ => rfl
  | x :: xs, k => by
    show r (.tuple [.int (k : Int), .int x]) :: (enumF (k + 1) (xs.map PyData.int)).map r = PyData.int (f k x) :: (mi f (k + 1) xs).map PyData.int
    rw [hr, enum_map f r hr xs (k + 1)]
/-- [el for at, one in enumerate(numbers)] -/
theorem comp_enum {env e1 e2 e3 W : EnvD} {a el : Ex} {o : Opd} {d : PyData} {i j : Nat} {xs : List Int} (f : Nat → Int → Int) (h1 : evE Γ a env = some (o, e1)) (h2 : frz e1 o = some (d, e2)) (h3 : items d = some (xs.map .int)) (hl : xs.length ≤ 10000) (hw : wipe1 e2 [i, j] = W) (hij : (decide (i < W.length) && decide (j < W.length)) = true)
    (hel : ∀ (k : Nat) (v : Int), xs[k]? = some v → evE Γ el ((W.set i (.va (.int (k : Int)))).set j (.va (.int v))) = some (.va (.int (f k v)), (W.set i (.va (.int (k : Int)))).set j (.va (.int v)))) (hb : wipe1 W [i, j] = W) (hww : ∀ k v, wipe1 ((W.set i (.va (.int (k : Int)))).set j (.va (.int v))) [i, j] = W) (h4 : back e2 [i, j] W = some e3) :
    evE Γ (.comp el (.tp (.cons (.nm i) (.cons (.nm j) .nil))) (.enum a) .nil [i, j]) env = some (.ow ((mi f 0 xs).map .int), e3) := by
  rw [Bool.and_eq_true] at hij
  have hi := of_decide_eq_true hij.1
  have hj := of_decide_eq_true hij.2
  have z := comp_gen (Γ := Γ) (el := el) (tg := .tp (.cons (.nm i) (.cons (.nm j) .nil))) (W := W) (e3 := e3) (fun d => match d with
    | .tuple [.int k, .int v] => .int (f k.toNat v)
    | _ => .none) (xr_enum h1 h2 h3) (by rw [enumF_len, List.length_map]; omega) hw (fun d hd => ?_) h4
  · rw [z, enum_map f _ (fun i v => by rfl)]
  · obtain ⟨k, v, e, hx⟩ := enum_mem hd
    subst e
    rw [Nat.zero_add]
    refine ⟨(W.set i (.va (.int (k : Int)))).set j (.va (.int v)), _, _, (W.set i (.va (.int (k : Int)))).set j (.va (.int v)), ?_, hel k v hx, rfl, hww k v⟩
    rw [asgT, asgTs, asgT, if_pos hi]
    show (asgTs Γ (.cons (.nm j) .nil) [.int v] (W.set i (.va (.int (k : Int))))) = _
    rw [asgTs, asgT, if_pos (by rw [List.length_set]; exact hj)]
    show asgTs Γ .nil [] _ = _
    rw [asgTs]
/-- [el for i in range(n)] -/
theorem comp_range {env e1 e3 W : EnvD} {el : Ex} {es : Exs} {os : List Opd} {ds : List PyData} {i n : Nat} (f : Nat → PyData) (h1 : evEs Γ es env = some (os, e1)) (h2 : ress e1 os = some ds) (h3 : ints3 ds = some ((List.range n).map fun (k : Nat) => (k : Int))) (hl : n ≤ 1000000) (hw : wipe1 e1 [i] = W) (hi : decide (i < W.length) = true)
    (hel : ∀ (k : Nat), k < n → ∃ o eb ec, evE Γ el (W.set i (.va (.int (k : Int)))) = some (o, eb) ∧ frz eb o = some (f k, ec) ∧ wipe1 ec [i] = W) (h4 : back e1 [i] W = some e3) :
    evE Γ (.comp el (.nm i) (.rng es) .nil [i]) env = some (.ow ((List.range n).map f), e3) := by
  have hi := of_decide_eq_true hi
  have z := comp_gen (Γ := Γ) (el := el) (tg := .nm i) (W := W) (e3 := e3) (fun d => match d with
    | .int k => f k.toNat
    | _ => .none) (xr_rng h1 h2 h3) (by simp; omega) hw (fun d hd => ?_) h4
  · rw [z, List.map_map, List.map_map]
    rfl
  · simp only [List.map_map, List.mem_map, List.mem_range] at hd
    obtain ⟨k, hk, e⟩ := hd
    subst e
    obtain ⟨o, eb, ec, z1, z2, z3⟩ := hel k hk
    exact ⟨W.set i (.va (.int (k : Int))), o, eb, ec, by show asgT Γ (.nm i) (.int (k : Int)) W = _; rw [asgT, if_pos hi], z1, z2, z3⟩
/-- [el for x in xs] -/
theorem comp_ex {env e1 e2 e3 W : EnvD} {a el : Ex} {o : Opd} {d : PyData} {ds : List PyData} {i : Nat} (f : PyData → PyData) (h1 : evE Γ a env = some (o, e1)) (h2 : frz e1 o = some (d, e2)) (h3 : items d = some ds) (hl : ds.length ≤ 1000000) (hw : wipe1 e2 [i] = W) (hi : decide (i < W.length) = true)
    (hel : ∀ x ∈ ds, ∃ o eb ec, evE Γ el (W.set i (.va x)) = some (o, eb) ∧ frz eb o = some (f x, ec) ∧ wipe1 ec [i] = W) (h4 : back e2 [i] W = some e3) :
    evE Γ (.comp el (.nm i) (.ex a) .nil [i]) env = some (.ow (ds.map f), e3) := by
  have hi := of_decide_eq_true hi
  refine comp_gen (Γ := Γ) (el := el) (tg := .nm i) (W := W) (e3 := e3) f (xr_ex h1 h2 h3) (by omega) hw (fun d hd => ?_) h4
  obtain ⟨o, eb, ec, z1, z2, z3⟩ := hel d hd
  exact ⟨W.set i (.va d), o, eb, ec, by rw [asgT, if_pos hi], z1, z2, z3⟩
/-- a list or a tuple of ints -/
def seqI : PyData → Option (List Int)
  | .list ds => allInts ds
  | .tuple ds => allInts ds
  | _ => none
theorem seqI_items {d : PyData} {xs : List Int} (h : seqI d = some xs) : items d = some (xs.map .int) := by
  unfold seqI at h
  split at h
  · rw [allInts_eq h]
    rfl
  · rw [allInts_eq h]
    rfl
  · cases h
theorem seqI_li (xs : List Int) : seqI (li xs) = some xs := allInts_map xs
theorem seqI_tup (xs : List Int) : seqI (.tuple (xs.map .int)) = some xs := allInts_map xs

def irSigned : Sms := (.cons (.ret (.comp (.ite (.cmp .eq (.bin .md (.bi .int (.cons (.var 1) .nil)) (.cst (.int (2)))) (.cst (.int (0)))) (.var 2) (.bin .sub (.cst (.int (0))) (.var 2))) (.tp (.cons (.nm 1) (.cons (.nm 2) .nil))) (.enum (.var 0)) .nil [1, 2])) .nil)
def sgn : Nat → Int → Int := fun k x => if k % 2 = 0 then x else 0 - x
def fSigned : Run
  | [d] => (seqI d).bind fun xs => if xs.length ≤ 10000 then some (.ow ((mi sgn 0 xs).map .int), []) else none
  | _ => none
theorem does_signed : Does fSigned Γ false 3 irSigned := by
  intro ds z h
  unfold fSigned at h
  split at h
  · rename_i d
    rw [Option.bind_eq_some_iff] at h
    obtain ⟨xs, hx, h⟩ := h
    split at h
    · rename_i hl
      cases h
      refine y_run (out := .rt (.ow ((mi sgn 0 xs).map .int)) [.va d, .no, .no]) (y_rt (y_retO (comp_enum (W := [.va d, .no, .no]) sgn rfl rfl (seqI_items hx) hl rfl rfl (fun k v _ => ?_) rfl (fun k v => rfl) rfl))) rfl
      have hc : cmpD .eq (.int ((k : Int) % 2)) (.int 0) = some (decide (k % 2 = 0)) := by
        show some (decide ((k : Int) % 2 = 0)) = _
        congr 1
        by_cases h : k % 2 = 0
        · rw [decide_eq_true h, decide_eq_true (by omega)]
        · rw [decide_eq_false h, decide_eq_false (by omega)]
      refine x_ite (t := decide (k % 2 = 0)) (x_cmp (x_md (x_biV (xs_cons rfl xs_nil) rfl rfl) rfl rfl rfl (by omega)) rfl rfl rfl hc) ?_
      unfold sgn
      by_cases h : k % 2 = 0
      · rw [decide_eq_true h, if_pos rfl, if_pos h]
        rfl
      · rw [decide_eq_false h, if_neg (by decide), if_neg h]
        exact x_binV rfl rfl rfl rfl rfl
    · cases h
  · cases h
end
end Pd

/-! sums by choices, taken back, heads -/
namespace Pd
open PySem PySem.Spec PyProof.Rows L2
section
variable {Γ : Tab}
theorem frz_opd (e : EnvD) (r : Rv) : frz e r.opd = some (r.d, e) := by cases r <;> rfl
theorem cut_map {lo hi : Option Int} (xs : List Int) : cutD (xs.map PyData.int) lo hi = (cutD xs lo hi).map PyData.int := by
  unfold cutD
  rw [List.length_map, ← List.map_drop, ← List.map_take]
theorem slc_seq {d : PyData} {xs : List Int} {lo hi : Option Int} (h : seqI d = some xs) : ∃ r, slcD d lo hi = some r ∧ seqI r.d = some (cutD xs lo hi) := by
  unfold seqI at h
  split at h
  · rw [allInts_eq h]
    exact ⟨.ow (cutD (xs.map PyData.int) lo hi), rfl, by rw [cut_map]; exact seqI_li _⟩
  · rw [allInts_eq h]
    exact ⟨.va (.tuple (cutD (xs.map PyData.int) lo hi)), rfl, by rw [cut_map]; exact seqI_tup _⟩
  · cases h
theorem cut_take (xs : List Int) (n : Nat) : cutD xs none (some (n : Int)) = xs.take n := by
  unfold cutD
  rw [HT.sIx_none, HT.sIx_nat, List.drop_zero, Nat.sub_zero]
  by_cases h : n ≤ xs.length
  · rw [Nat.min_eq_left h]
  · rw [Nat.min_eq_right (by omega), List.take_of_length_le (by omega), List.take_of_length_le (by omega)]
theorem cut_drop (xs : List Int) (n : Nat) : cutD xs (some (n : Int)) none = xs.drop n := by
  unfold cutD
  rw [HT.sIx_none, HT.sIx_nat]
  by_cases h : n ≤ xs.length
  · rw [Nat.min_eq_left h, List.take_of_length_le (by rw [List.length_drop]; omega)]
  · rw [Nat.min_eq_right (by omega), List.drop_of_length_le (by omega), List.drop_of_length_le (by omega), List.take_nil]
theorem len_seq {d : PyData} {xs : List Int} (h : seqI d = some xs) : biD .len [d] = some (.va (.int (xs.length : Int))) := by
  unfold seqI at h
  split at h
  · rw [allInts_eq h]
    show some (Rv.va (.int ((xs.map PyData.int).length : Int))) = _
    rw [List.length_map]
  · rw [allInts_eq h]
    show some (Rv.va (.int ((xs.map PyData.int).length : Int))) = _
    rw [List.length_map]
  · cases h
theorem sum_li (xs : List Int) : biD .sum [li xs] = some (.va (.int xs.sum)) := by
  show (allInts (xs.map PyData.int)).map (fun ns => Rv.va (.int ns.sum)) = _
  rw [allInts_map]
  rfl
def big (x : Int) : Prop := x.natAbs < 2 ^ 100000
instance {x : Int} : Decidable (big x) := by unfold big; infer_instance
theorem mulOk_ch {n k : Nat} {v : Int} (hn : n ≤ 1000000000) (hk : k ≤ 1001) (hv : big v) : mulOk (ch n k : Int) v = true := by
  refine mulOk_of 64065 100000 ?_ hv (by omega)
  rw [Int.natAbs_natCast]
  have h1 : n < 2 ^ 64 := by omega
  have b1 : ch n k ≤ 2 ^ (64 * k) := Nat.le_trans (ch_le n k) (pow_lt_bits h1 k)
  have b2 : (2 : Nat) ^ (64 * k) < 2 ^ 64065 := Nat.pow_lt_pow_right (by omega) (by omega)
  omega
theorem mulOk_comm (i j : Int) : mulOk i j = mulOk j i := by
  unfold mulOk
  rw [Nat.add_comm]
theorem run_choose {n k : Nat} (hn : n ≤ 1000000000) (hk : k ≤ 1000 ∨ n < k ∨ n - k ≤ 1000) (hk2 : k ≤ 1000000000) : fChoose [.int (n : Int), .int (k : Int)] = some (.va (.int (ch n k : Int)), []) := by
  unfold fChoose
  dsimp only
  rw [if_pos ⟨by omega, by omega, by omega, by omega, fun h => by omega⟩, Int.toNat_natCast, Int.toNat_natCast]
/-- summed_at -/
def irSummed (k : Nat) : Sms := (.cons (.ret (.bi .sum (.cons (.comp (.bin .mul (.call k (.cons (.var 1) (.cons (.var 2) .nil)) .nil [0, 1]) (.var 3)) (.tp (.cons (.nm 2) (.cons (.nm 3) .nil))) (.enum (.slc (.var 0) .no (.yes (.bin .add (.var 1) (.cst (.int (1))))))) .nil [2, 3]) .nil))) .nil)
def summed (xs : List Int) (p : Nat) : Int := (mi (fun k v => (ch p k : Int) * v) 0 (xs.take (p + 1))).sum
def fSummed : Run
  | [d, .int p] => (seqI d).bind fun xs => if 0 ≤ p ∧ p ≤ 1000 ∧ xs.length ≤ 1000 ∧ ∀ x ∈ xs, big x then some (.va (.int (summed xs p.toNat)), []) else none
  | _ => none
theorem does_summed {k : Nat} (h1 : Γ k = some ⟨false, fChoose⟩) : Does fSummed Γ false 4 (irSummed k) := by
  intro ds z h
  unfold fSummed at h
  split at h
  · rename_i d p
    rw [Option.bind_eq_some_iff] at h
    obtain ⟨xs, hx, h⟩ := h
    split at h
    · rename_i hh
      obtain ⟨p0, p1, hl, hb⟩ := hh
      cases h
      obtain ⟨p, rfl⟩ := Int.eq_ofNat_of_zero_le p0
      rw [Int.toNat_natCast]
      obtain ⟨r, hr, hs⟩ := slc_seq (lo := none) (hi := some ((p : Int) + 1)) hx
      have e1 : (p : Int) + 1 = ((p + 1 : Nat) : Int) := by omega
      rw [e1, cut_take] at hs
      have hslc : evE Γ (.slc (.var 0) .no (.yes (.bin .add (.var 1) (.cst (.int (1)))))) [.va d, .va (.int (p : Int)), .no, .no] = some (r.opd, [.va d, .va (.int (p : Int)), .no, .no]) :=
        x_slc (lo := none) (hi := some ((p : Int) + 1)) (x := d) (e1 := [.va d, .va (.int (p : Int)), .no, .no]) (e2 := [.va d, .va (.int (p : Int)), .no, .no]) rfl xo_no (xo_yes (x_binV rfl rfl rfl rfl rfl)) rfl hr
      have hc : evE Γ (.comp (.bin .mul (.call k (.cons (.var 1) (.cons (.var 2) .nil)) .nil [0, 1]) (.var 3)) (.tp (.cons (.nm 2) (.cons (.nm 3) .nil))) (.enum (.slc (.var 0) .no (.yes (.bin .add (.var 1) (.cst (.int (1))))))) .nil [2, 3]) [.va d, .va (.int (p : Int)), .no, .no] = some (.ow ((mi (fun k v => (ch p k : Int) * v) 0 (xs.take (p + 1))).map .int), [.va d, .va (.int (p : Int)), .no, .no]) := by
        refine comp_enum (W := [.va d, .va (.int (p : Int)), .no, .no]) (o := r.opd) (d := r.d) (fun k v => (ch p k : Int) * v) hslc (frz_opd _ r) (seqI_items hs) (by rw [List.length_take]; omega) rfl rfl (fun j v hv => ?_) rfl (fun k v => rfl) rfl
        have hj : j < xs.length := by
          obtain ⟨a, _⟩ := List.getElem?_eq_some_iff.mp hv
          rw [List.length_take] at a
          omega
        have hbv : big v := hb v (List.mem_of_mem_take (List.mem_of_getElem? hv))
        have c := run_choose (n := p) (k := j) (by omega) (by omega) (by omega)
        have m := mulOk_ch (n := p) (k := j) (by omega) (by omega) hbv
        have c2 : evE Γ (.call k (.cons (.var 1) (.cons (.var 2) .nil)) .nil [0, 1]) [.va d, .va (.int (p : Int)), .va (.int (j : Int)), .va (.int v)] = some (.va (.int (ch p j : Int)), [.va d, .va (.int (p : Int)), .va (.int (j : Int)), .va (.int v)]) :=
          x_callV (ds := [.int (p : Int), .int (j : Int)]) (as := [.int (p : Int), .int (j : Int)]) h1 (xs_cons rfl (xs_cons rfl xs_nil)) xs_nil rfl rfl c
        exact x_mul c2 rfl rfl rfl m
      exact y_run (y_rt (y_retV (x_biV (xs_cons hc xs_nil) rfl (sum_li _)))) rfl
    · cases h
  · cases h
/-- sums_of -/
def irSums (k : Nat) : Sms := (.cons (.ret (.comp (.call k (.cons (.var 0) (.cons (.var 1) .nil)) .nil [0, 1]) (.nm 1) (.rng (.cons (.bi .len (.cons (.var 0) .nil)) .nil)) .nil [1])) .nil)
def sums (xs : List Int) : List Int := (List.range xs.length).map fun p => summed xs p
def fSums : Run
  | [d] => (seqI d).bind fun xs => if xs.length ≤ 1000 ∧ ∀ x ∈ xs, big x then some (.ow ((sums xs).map .int), []) else none
  | _ => none
theorem run_summed {d : PyData} {xs : List Int} {p : Nat} (hx : seqI d = some xs) (hp : p ≤ 1000) (hl : xs.length ≤ 1000) (hb : ∀ x ∈ xs, big x) : fSummed [d, .int (p : Int)] = some (.va (.int (summed xs p)), []) := by
  unfold fSummed
  dsimp only
  rw [hx]
  show (if _ then _ else none) = _
  rw [if_pos ⟨by omega, by omega, hl, hb⟩, Int.toNat_natCast]
theorem does_sums {k : Nat} (h1 : Γ k = some ⟨false, fSummed⟩) : Does fSums Γ false 2 (irSums k) := by
  intro ds z h
  unfold fSums at h
  split at h
  · rename_i d
    rw [Option.bind_eq_some_iff] at h
    obtain ⟨xs, hx, h⟩ := h
    split at h
    · rename_i hh
      obtain ⟨hl, hb⟩ := hh
      cases h
      have hc := comp_range (Γ := Γ) (env := [.va d, .no]) (e1 := [.va d, .no]) (W := [.va d, .no]) (e3 := [.va d, .no]) (es := .cons (.bi .len (.cons (.var 0) .nil)) .nil) (el := .call k (.cons (.var 0) (.cons (.var 1) .nil)) .nil [0, 1]) (i := 1) (n := xs.length) (fun p => .int (summed xs p)) (xs_cons (x_biV (xs_cons rfl xs_nil) rfl (len_seq hx)) xs_nil) rfl (ints1 (by omega)) (by omega) rfl rfl
        (fun p hp => ⟨_, _, _, x_callV h1 (xs_cons rfl (xs_cons rfl xs_nil)) xs_nil rfl rfl (run_summed hx (by omega) hl hb), rfl, rfl⟩) rfl
      have e : (sums xs).map PyData.int = (List.range xs.length).map fun p => PyData.int (summed xs p) := by
        unfold sums
        rw [List.map_map]
        rfl
      rw [e]
      exact y_run (y_rt (y_retO hc)) rfl
    · cases h
  · cases h
/-- back_of -/
def irBack (s u : Nat) : Sms := (.cons (.ret (.call s (.cons (.call u (.cons (.call s (.cons (.var 0) .nil) .nil [0]) .nil) .nil [0]) .nil) .nil [0])) .nil)
def backs (xs : List Int) : List Int := mi sgn 0 (sums (mi sgn 0 xs))
def fBack : Run
  | [d] => (seqI d).bind fun xs => if xs.length ≤ 1000 ∧ ∀ x ∈ xs, big x then some (.ow ((backs xs).map .int), []) else none
  | _ => none
theorem mi_mem {f : Nat → Int → Int} {Pr : Int → Prop} : ∀ {xs : List Int} {k : Nat}, (∀ x ∈ xs, ∀ k, Pr (f k x)) → ∀ y ∈ mi f k xs, Pr y
  | [], _, _, y, hy => by cases hy
  | x :: xs, k, h, y, hy => by
    rw [mi] at hy
    rcases List.mem_cons.mp hy with z | z
    · subst z
      exact h x List.mem_cons_self k
    · exact mi_mem (fun x hx => h x (List.mem_cons_of_mem _ hx)) y z
theorem big_sgn {x : Int} (h : big x) (k : Nat) : big (sgn k x) := by
  unfold sgn
  split
  · exact h
  · unfold big at *
    rw [Int.zero_sub, Int.natAbs_neg]
    exact h
theorem sums_len (xs : List Int) : (sums xs).length = xs.length := by
  unfold sums
  simp
theorem run_signed {d : PyData} {xs : List Int} (hx : seqI d = some xs) (hl : xs.length ≤ 10000) : fSigned [d] = some (.ow ((mi sgn 0 xs).map .int), []) := by
  unfold fSigned
  dsimp only
  rw [hx]
  exact if_pos hl
theorem run_sums {d : PyData} {xs : List Int} (hx : seqI d = some xs) (hl : xs.length ≤ 1000) (hb : ∀ x ∈ xs, big x) : fSums [d] = some (.ow ((sums xs).map .int), []) := by
  unfold fSums
  dsimp only
  rw [hx]
  exact if_pos ⟨hl, hb⟩
theorem run_back {d : PyData} {xs : List Int} (hx : seqI d = some xs) (hl : xs.length ≤ 1000) (hb : ∀ x ∈ xs, big x) : fBack [d] = some (.ow ((backs xs).map .int), []) := by
  unfold fBack
  dsimp only
  rw [hx]
  exact if_pos ⟨hl, hb⟩
theorem does_back {s u : Nat} (h1 : Γ s = some ⟨false, fSigned⟩) (h2 : Γ u = some ⟨false, fSums⟩) : Does fBack Γ false 1 (irBack s u) := by
  intro ds z h
  unfold fBack at h
  split at h
  · rename_i d
    rw [Option.bind_eq_some_iff] at h
    obtain ⟨xs, hx, h⟩ := h
    split at h
    · rename_i hh
      obtain ⟨hl, hb⟩ := hh
      cases h
      have c1 := run_signed hx (by omega)
      have c2 := run_sums (seqI_li (mi sgn 0 xs)) (by rw [mi_len]; exact hl) (mi_mem fun x hx' k => big_sgn (hb x hx') k)
      have c3 := run_signed (seqI_li (sums (mi sgn 0 xs))) (by rw [sums_len, mi_len]; omega)
      exact y_run (y_rt (y_retO (x_callL h1 (xs_cons (x_callL h2 (xs_cons (x_callL h1 (xs_cons rfl xs_nil) xs_nil rfl rfl c1) xs_nil) xs_nil rfl rfl c2) xs_nil) xs_nil rfl rfl c3))) rfl
    · cases h
  · cases h
end
end Pd

/-! wants, heads told, powers -/
namespace Pd
open PySem PySem.Spec PyProof.Rows L2
section
variable {Γ : Tab}
theorem run_within {v lo hi : Int} : fWithin [.int v, .int lo, .int hi] = some (.va (.bool (decide (lo ≤ v) && decide (v ≤ hi))), []) := rfl
theorem run_listD {d : PyData} {xs : List Int} (h : seqI d = some xs) : fList [d] = some (.va (.bool true), []) := by
  unfold seqI at h
  split at h
  · rfl
  · rfl
  · cases h
/-- want_numbers: at most 60 ints, each of size at most 10 ** 12 -/
def irWantN (l w : Nat) : Sms := (.cons (.ite (.or_ (.not_ (.call l (.cons (.var 0) .nil) .nil [0])) (.cmp .gt (.bi .len (.cons (.var 0) .nil)) (.cst (.int (60))))) (.cons .stop .nil) .nil) (.cons (.ite (.not_ (.bi .all (.cons (.comp (.call w (.cons (.var 1) (.cons (.bin .sub (.cst (.int (0))) (.cst (.int (1000000000000)))) (.cons (.cst (.int (1000000000000))) .nil))) .nil [0, 1, 2]) (.nm 1) (.ex (.var 0)) .nil [1]) .nil))) (.cons .stop .nil) .nil) .nil))
def smallN (xs : List Int) : Prop := xs.length ≤ 60 ∧ ∀ x ∈ xs, -1000000000000 ≤ x ∧ x ≤ 1000000000000
instance {xs : List Int} : Decidable (smallN xs) := by unfold smallN; infer_instance
def fWantN : Run
  | [d] => (seqI d).bind fun xs => if smallN xs then some (.va .none, []) else none
  | _ => none
theorem run_wantN {d : PyData} {xs : List Int} (hx : seqI d = some xs) (hs : smallN xs) : fWantN [d] = some (.va .none, []) := by
  unfold fWantN
  dsimp only
  rw [hx]
  exact if_pos hs
theorem allBools_true (n : Nat) : biD .all [.list (List.replicate n (.bool true))] = some (.va (.bool true)) := by
  show (allBools (List.replicate n (.bool true))).map (fun bs => Rv.va (.bool (bs.all id))) = _
  have : allBools (List.replicate n (.bool true)) = some (List.replicate n true) := by
    induction n with
    | zero => rfl
    | succ n ih =>
      show (allBools (List.replicate n (.bool true))).map (true :: ·) = _
      rw [ih]
      rfl
  rw [this]
  show some (Rv.va (.bool ((List.replicate n true).all id))) = _
  rw [List.all_eq_true.mpr fun x hx => by rw [List.eq_of_mem_replicate hx]; rfl]
theorem does_wantN {l w : Nat} (h1 : Γ l = some ⟨false, fList⟩) (h2 : Γ w = some ⟨false, fWithin⟩) : Does fWantN Γ false 2 (irWantN l w) := by
  intro ds z h
  unfold fWantN at h
  split at h
  · rename_i d
    rw [Option.bind_eq_some_iff] at h
    obtain ⟨xs, hx, h⟩ := h
    split at h
    · rename_i hs
      cases h
      have c1 := run_listD hx
      have hlen : cmpD .gt (.int (xs.length : Int)) (.int 60) = some false := congrArg some (decide_eq_false (by have := hs.1; omega))
      have hc := comp_ex (Γ := Γ) (env := [.va d, .no]) (e1 := [.va d, .no]) (e2 := [.va d, .no]) (W := [.va d, .no]) (e3 := [.va d, .no]) (a := .var 0) (o := .va d) (d := d) (el := .call w (.cons (.var 1) (.cons (.bin .sub (.cst (.int (0))) (.cst (.int (1000000000000)))) (.cons (.cst (.int (1000000000000))) .nil))) .nil [0, 1, 2]) (i := 1) (fun _ => .bool true) rfl rfl (seqI_items hx) (by rw [List.length_map]; have := hs.1; omega) rfl rfl
        (fun x hxm => by
          obtain ⟨v, hv, e⟩ := List.mem_map.mp hxm
          subst e
          have b := hs.2 v hv
          have c : fWithin [.int v, .int (0 - 1000000000000), .int 1000000000000] = some (.va (.bool true), []) := by
            rw [run_within, decide_eq_true (by omega), decide_eq_true (by omega)]
            rfl
          exact ⟨_, _, _, x_callV h2 (xs_cons rfl (xs_cons (x_binV rfl rfl rfl rfl rfl) (xs_cons rfl xs_nil))) xs_nil rfl rfl c, rfl, rfl⟩) rfl
      rw [List.map_const', List.length_map] at hc
      exact y_run (out := .nx [.va d, .no]) (y_nx (y_ifF (x_orF (x_not (t := true) (x_callV h1 (xs_cons rfl xs_nil) xs_nil rfl rfl c1)) (x_cmp (x_biV (xs_cons rfl xs_nil) rfl (len_seq hx)) rfl rfl rfl hlen)) y_nil)
        (y_nx (y_ifF (x_not (t := true) (x_biV (xs_cons hc xs_nil) rfl (allBools_true _))) y_nil) y_nil)) rfl
    · cases h
  · cases h
/-- by_heads -/
def irByHeads (k : Nat) : Sms := (.cons (.ret (.bi .sum (.cons (.comp (.bin .mul (.call k (.cons (.var 1) (.cons (.var 2) .nil)) .nil [0, 1]) (.var 3)) (.tp (.cons (.nm 2) (.cons (.nm 3) .nil))) (.enum (.var 0)) .nil [2, 3]) .nil))) .nil)
def byHeads (xs : List Int) (p : Nat) : Int := (mi (fun k v => (ch p k : Int) * v) 0 xs).sum
def fByHeads : Run
  | [d, .int p] => (seqI d).bind fun xs => if 0 ≤ p ∧ p ≤ 1000000 ∧ xs.length ≤ 1000 ∧ ∀ x ∈ xs, big x then some (.va (.int (byHeads xs p.toNat)), []) else none
  | _ => none
theorem run_byHeads {d : PyData} {xs : List Int} {p : Nat} (hx : seqI d = some xs) (hp : p ≤ 1000000) (hl : xs.length ≤ 1000) (hb : ∀ x ∈ xs, big x) : fByHeads [d, .int (p : Int)] = some (.va (.int (byHeads xs p)), []) := by
  unfold fByHeads
  dsimp only
  rw [hx]
  show (if _ then _ else none) = _
  rw [if_pos ⟨by omega, by omega, hl, hb⟩, Int.toNat_natCast]
theorem does_byHeads {k : Nat} (h1 : Γ k = some ⟨false, fChoose⟩) : Does fByHeads Γ false 4 (irByHeads k) := by
  intro ds z h
  unfold fByHeads at h
  split at h
  · rename_i d p
    rw [Option.bind_eq_some_iff] at h
    obtain ⟨xs, hx, h⟩ := h
    split at h
    · rename_i hh
      obtain ⟨p0, p1, hl, hb⟩ := hh
      cases h
      obtain ⟨p, rfl⟩ := Int.eq_ofNat_of_zero_le p0
      rw [Int.toNat_natCast]
      have hc : evE Γ (.comp (.bin .mul (.call k (.cons (.var 1) (.cons (.var 2) .nil)) .nil [0, 1]) (.var 3)) (.tp (.cons (.nm 2) (.cons (.nm 3) .nil))) (.enum (.var 0)) .nil [2, 3]) [.va d, .va (.int (p : Int)), .no, .no] = some (.ow ((mi (fun k v => (ch p k : Int) * v) 0 xs).map .int), [.va d, .va (.int (p : Int)), .no, .no]) := by
        refine comp_enum (W := [.va d, .va (.int (p : Int)), .no, .no]) (fun k v => (ch p k : Int) * v) rfl rfl (seqI_items hx) (by omega) rfl rfl (fun j v hv => ?_) rfl (fun k v => rfl) rfl
        have hj : j < xs.length := (List.getElem?_eq_some_iff.mp hv).1
        have hbv : big v := hb v (List.mem_of_getElem? hv)
        have c := run_choose (n := p) (k := j) (by omega) (by omega) (by omega)
        have m := mulOk_ch (n := p) (k := j) (by omega) (by omega) hbv
        exact x_mul (x_callV h1 (xs_cons rfl (xs_cons rfl xs_nil)) xs_nil rfl rfl c) rfl rfl rfl m
      exact y_run (y_rt (y_retV (x_biV (xs_cons hc xs_nil) rfl (sum_li _)))) rfl
    · cases h
  · cases h
/-- number_by -/
def irNumberBy (w c b : Nat) : Sms := (.cons (.exp (.call w (.cons (.var 0) .nil) .nil [0])) (.cons (.exp (.call c (.cons (.var 1) (.cons (.cst (.int (200))) .nil)) .nil [0, 1])) (.cons (.ret (.call b (.cons (.var 0) (.cons (.var 1) .nil)) .nil [0, 1])) .nil)))
def fNumberBy : Run
  | [d, .int p] => (seqI d).bind fun xs => if 0 ≤ p ∧ p ≤ 200 ∧ smallN xs then some (.va (.int (byHeads xs p.toNat)), []) else none
  | _ => none
theorem small_big {x : Int} (h : -1000000000000 ≤ x ∧ x ≤ 1000000000000) : big x := by
  have h1 : x.natAbs < 2 ^ 50 := by omega
  have h2 : (2 : Nat) ^ 50 ≤ 2 ^ 100000 := Nat.pow_le_pow_right (by omega) (by omega)
  unfold big
  omega
theorem run_numberBy {d : PyData} {xs : List Int} {p : Nat} (hx : seqI d = some xs) (hp : p ≤ 200) (hs : smallN xs) : fNumberBy [d, .int (p : Int)] = some (.va (.int (byHeads xs p)), []) := by
  unfold fNumberBy
  dsimp only
  rw [hx]
  show (if _ then _ else none) = _
  rw [if_pos ⟨by omega, by omega, hs⟩, Int.toNat_natCast]
theorem does_numberBy {w c b : Nat} (h1 : Γ w = some ⟨false, fWantN⟩) (h2 : Γ c = some ⟨false, fCount⟩) (h3 : Γ b = some ⟨false, fByHeads⟩) : Does fNumberBy Γ false 2 (irNumberBy w c b) := by
  intro ds z h
  unfold fNumberBy at h
  split at h
  · rename_i d p
    rw [Option.bind_eq_some_iff] at h
    obtain ⟨xs, hx, h⟩ := h
    split at h
    · rename_i hh
      obtain ⟨p0, p1, hs⟩ := hh
      cases h
      obtain ⟨p, rfl⟩ := Int.eq_ofNat_of_zero_le p0
      rw [Int.toNat_natCast]
      have c1 := run_wantN hx hs
      have c2 : fCount [.int (p : Int), .int 200] = some (.va .none, []) := if_pos ⟨p0, p1⟩
      have c3 := run_byHeads (p := p) hx (by omega) (by have := hs.1; omega) fun x hx' => small_big (hs.2 x hx')
      exact y_run (y_nx (y_exp (x_callV h1 (xs_cons rfl xs_nil) xs_nil rfl rfl c1)) (y_nx (y_exp (x_callV h2 (xs_cons rfl (xs_cons rfl xs_nil)) xs_nil rfl rfl c2)) (y_rt (y_retV (x_callV h3 (xs_cons rfl (xs_cons rfl xs_nil)) xs_nil rfl rfl c3))))) rfl
    · cases h
  · cases h
/-- told_heads -/
def irTold (b : Nat) : Sms := (.cons (.asg 1 (.call b (.cons (.var 0) .nil) .nil [0]) false) (.cons (.whl (.and_ (.cmp .ne (.var 1) (.lst .nil)) (.cmp .eq (.idx (.var 1) (.neg (.cst (.int (1))))) (.cst (.int (0))))) (.cons (.exp (.mut .pop 1 .nil)) .nil)) (.cons (.ret (.var 1)) .nil)))
/-- noughts at the end go -/
def stripN : Nat → List Int → List Int
  | 0, xs => xs
  | n + 1, xs => if xs.getLast? = some 0 then stripN n xs.dropLast else xs
def strip (xs : List Int) : List Int := stripN xs.length xs
def fTold : Run
  | [d] => (seqI d).bind fun xs => if xs.length ≤ 900 ∧ ∀ x ∈ xs, big x then some (.ow ((strip (backs xs)).map .int), []) else none
  | _ => none
theorem run_told {d : PyData} {xs : List Int} (hx : seqI d = some xs) (hl : xs.length ≤ 900) (hb : ∀ x ∈ xs, big x) : fTold [d] = some (.ow ((strip (backs xs)).map .int), []) := by
  unfold fTold
  dsimp only
  rw [hx]
  exact if_pos ⟨hl, hb⟩
theorem at_last (xs : List Int) (x : Int) : L2.atI ((xs ++ [x]).map PyData.int) (-1) = some (.int x) := by
  rw [List.map_append]
  exact L2.atI_last _ _
theorem whl_strip {d : PyData} : ∀ (n : Nat) (xs : List Int), xs.length ≤ n → whlL (fun e => (evE Γ (.and_ (.cmp .ne (.var 1) (.lst .nil)) (.cmp .eq (.idx (.var 1) (.neg (.cst (.int (1))))) (.cst (.int (0))))) e).bind fun p => (truth p.1).bind fun t => some (t, p.2)) (fun e => exSs Γ nF (.cons (.exp (.mut .pop 1 .nil)) .nil) e) (n + 1) [.va d, .ow (xs.map .int)] = some (.nx [.va d, .ow ((stripN n xs).map .int)])
  | n, xs, hn => by
    rcases List.eq_nil_or_concat xs with e | ⟨ys, y, e⟩
    · subst e
      have hc : evE Γ (.and_ (.cmp .ne (.var 1) (.lst .nil)) (.cmp .eq (.idx (.var 1) (.neg (.cst (.int (1))))) (.cst (.int (0))))) [.va d, .ow []] = some (.va (.bool false), [.va d, .ow []]) :=
        x_andF (x_cmp rfl (x_lst xs_nil rfl (by simp)) rfl rfl (cmp_ne_li [] []))
      have : stripN n [] = [] := by cases n <;> rfl
      rw [this]
      unfold whlL
      show ((evE Γ _ [.va d, .ow []]).bind _).bind _ = _
      rw [hc]
      rfl
    · rw [List.concat_eq_append] at e
      subst e
      have h1 : cmpD .ne (.list ((ys ++ [y]).map .int)) (.list []) = some true := by
        have := cmp_ne_li (ys ++ [y]) []
        rw [decide_eq_false (by simp)] at this
        exact this
      have hi : idxD (.list ((ys ++ [y]).map .int)) (.int (-1)) = some (.int y) := at_last ys y
      have h2 : evE Γ (.cmp .eq (.idx (.var 1) (.neg (.cst (.int (1))))) (.cst (.int (0)))) [.va d, .ow ((ys ++ [y]).map .int)] = some (.va (.bool (decide (y = 0))), [.va d, .ow ((ys ++ [y]).map .int)]) :=
        x_cmp (x_idx rfl (x_neg rfl) rfl rfl hi) rfl rfl rfl rfl
      have hc : evE Γ (.and_ (.cmp .ne (.var 1) (.lst .nil)) (.cmp .eq (.idx (.var 1) (.neg (.cst (.int (1))))) (.cst (.int (0))))) [.va d, .ow ((ys ++ [y]).map .int)] = some (.va (.bool (decide (y = 0))), [.va d, .ow ((ys ++ [y]).map .int)]) :=
        x_andT (x_cmp rfl (x_lst xs_nil rfl (by simp)) rfl rfl h1) h2
      unfold whlL
      show ((evE Γ _ [.va d, .ow ((ys ++ [y]).map .int)]).bind _).bind _ = _
      rw [hc]
      have hl : (ys ++ [y]).getLast? = some y := by simp
      rw [List.length_append, List.length_singleton] at hn
      obtain ⟨m, rfl⟩ : ∃ m, n = m + 1 := ⟨n - 1, by omega⟩
      by_cases hy : y = 0
      · subst hy
        have hm : exSs Γ nF (.cons (.exp (.mut .pop 1 .nil)) .nil) [.va d, .ow ((ys ++ [0]).map .int)] = some (.nx [.va d, .ow (ys.map .int)]) := by
          have hp : mutD .pop ((ys ++ [0]).map .int) [] = some (ys.map .int, .int 0) := by
            show (((ys ++ [(0 : Int)]).map PyData.int).getLast?).map (fun x => (((ys ++ [(0 : Int)]).map PyData.int).dropLast, x)) = _
            rw [List.map_append]
            simp
          exact y_nx (y_exp (x_mutO rfl xs_nil rfl rfl hp rfl)) y_nil
        show (exSs Γ nF _ [.va d, .ow ((ys ++ [0]).map .int)]).bind _ = _
        rw [hm]
        have ih := whl_strip (d := d) m ys (by omega)
        rw [stripN, if_pos hl, List.dropLast_concat]
        exact ih
      · rw [decide_eq_false hy, stripN, if_neg (by rw [hl]; simpa using hy)]
        rfl
theorem does_told {b : Nat} (h1 : Γ b = some ⟨false, fBack⟩) : Does fTold Γ false 2 (irTold b) := by
  intro ds z h
  unfold fTold at h
  split at h
  · rename_i d
    rw [Option.bind_eq_some_iff] at h
    obtain ⟨xs, hx, h⟩ := h
    split at h
    · rename_i hh
      obtain ⟨hl, hb⟩ := hh
      cases h
      have c1 := run_back hx (by omega) hb
      have hlb : (backs xs).length = xs.length := by
        unfold backs
        rw [mi_len, sums_len, mi_len]
      have hw := whlL_mono (n := nF) (by rw [hlb]; show xs.length + 1 ≤ 1000; omega) (whl_strip (Γ := Γ) (d := d) (backs xs).length (backs xs) (Nat.le_refl _))
      exact y_run (out := .rt (.ow ((strip (backs xs)).map .int)) [.va d, .no]) (y_nx (y_asgO (x_callL h1 (xs_cons rfl xs_nil) xs_nil rfl rfl c1) rfl rfl) (y_nx (y_whl hw) (y_rt (y_retS rfl rfl rfl)))) rfl
    · cases h
  · cases h
/-- heads_degree -/
def irDegree (w t : Nat) : Sms := (.cons (.exp (.call w (.cons (.var 0) .nil) .nil [0])) (.cons (.ret (.bin .sub (.bi .len (.cons (.call t (.cons (.var 0) .nil) .nil [0]) .nil)) (.cst (.int (1))))) .nil))
def fDegree : Run
  | [d] => (seqI d).bind fun xs => if smallN xs then some (.va (.int ((strip (backs xs)).length - 1)), []) else none
  | _ => none
theorem run_degree {d : PyData} {xs : List Int} (hx : seqI d = some xs) (hs : smallN xs) : fDegree [d] = some (.va (.int ((strip (backs xs)).length - 1)), []) := by
  unfold fDegree
  dsimp only
  rw [hx]
  exact if_pos hs
theorem does_degree {w t : Nat} (h1 : Γ w = some ⟨false, fWantN⟩) (h2 : Γ t = some ⟨false, fTold⟩) : Does fDegree Γ false 1 (irDegree w t) := by
  intro ds z h
  unfold fDegree at h
  split at h
  · rename_i d
    rw [Option.bind_eq_some_iff] at h
    obtain ⟨xs, hx, h⟩ := h
    split at h
    · rename_i hs
      cases h
      have c1 := run_wantN hx hs
      have c2 := run_told hx (by have := hs.1; omega) fun x hx' => small_big (hs.2 x hx')
      exact y_run (y_nx (y_exp (x_callV h1 (xs_cons rfl xs_nil) xs_nil rfl rfl c1)) (y_rt (y_retV (x_binV (x_biV (xs_cons (x_callL h2 (xs_cons rfl xs_nil) xs_nil rfl rfl c2) xs_nil) rfl (len_seq (seqI_li (strip (backs xs))))) rfl rfl rfl rfl)))) rfl
    · cases h
  · cases h
/-- choose -/
def irChooseW (m s k : Nat) : Sms := (.cons (.exp (.call m (.cons (.var 0) .nil) .nil [0])) (.cons (.exp (.call s (.cons (.var 1) .nil) .nil [0])) (.cons (.ret (.call k (.cons (.var 0) (.cons (.var 1) .nil)) .nil [0, 1])) .nil)))
def fChooseW : Run
  | [.int n, .int k] => if 0 ≤ n ∧ n ≤ 200 ∧ 0 ≤ k ∧ k ≤ 200 then some (.va (.int (ch n.toNat k.toNat)), []) else none
  | _ => none
theorem run_chooseW {n k : Nat} (hn : n ≤ 200) (hk : k ≤ 200) : fChooseW [.int (n : Int), .int (k : Int)] = some (.va (.int (ch n k : Int)), []) := by
  unfold fChooseW
  dsimp only
  rw [if_pos ⟨by omega, by omega, by omega, by omega⟩, Int.toNat_natCast, Int.toNat_natCast]
theorem does_chooseW {m s k : Nat} (h1 : Γ m = some ⟨false, fWant 0 200⟩) (h2 : Γ s = some ⟨false, fWant 0 200⟩) (h3 : Γ k = some ⟨false, fChoose⟩) : Does fChooseW Γ false 2 (irChooseW m s k) := by
  intro ds z h
  unfold fChooseW at h
  split at h
  · rename_i n k
    split at h
    · rename_i hh
      obtain ⟨n0, n1, k0, k1⟩ := hh
      cases h
      obtain ⟨n, rfl⟩ := Int.eq_ofNat_of_zero_le n0
      obtain ⟨k, rfl⟩ := Int.eq_ofNat_of_zero_le k0
      rw [Int.toNat_natCast, Int.toNat_natCast]
      have c1 : fWant 0 200 [.int (n : Int)] = some (.va .none, []) := if_pos ⟨n0, n1⟩
      have c2 : fWant 0 200 [.int (k : Int)] = some (.va .none, []) := if_pos ⟨k0, k1⟩
      have c3 := run_choose (n := n) (k := k) (by omega) (by omega) (by omega)
      exact y_run (y_nx (y_exp (x_callV h1 (xs_cons rfl xs_nil) xs_nil rfl rfl c1)) (y_nx (y_exp (x_callV h2 (xs_cons rfl xs_nil) xs_nil rfl rfl c2)) (y_rt (y_retV (x_callV h3 (xs_cons rfl (xs_cons rfl xs_nil)) xs_nil rfl rfl c3))))) rfl
    · cases h
  · cases h
end
end Pd

/-! powers told by choices: the plain law -/
namespace Pd
def sZ (f : Nat → Int) : Nat → Int
  | 0 => 0
  | m + 1 => sZ f m + f m
/-- how often one puts p things onto j: heads of the powers -/
def hh : Nat → Nat → Int
  | 0, 0 => 1
  | 0, _ + 1 => 0
  | _ + 1, 0 => 0
  | p + 1, j + 1 => ((j : Int) + 1) * (hh p j + hh p (j + 1))
theorem hh_gt : ∀ {p j : Nat}, p < j → hh p j = 0
  | 0, j + 1, _ => rfl
  | p + 1, j + 1, h => by
    rw [hh, hh_gt (by omega), hh_gt (by omega)]
    simp
theorem ch_stepZ (n k : Nat) : (ch n (k + 1) : Int) * ((k : Int) + 1) = (ch n k : Int) * ((n : Int) - k) := by
  by_cases h : k ≤ n
  · have h1 := ch_step n k
    have e : ((n - k : Nat) : Int) = (n : Int) - k := by omega
    rw [← e, ← Int.natCast_mul, ← h1, Int.natCast_mul]
    rfl
  · rw [ch_gt (by omega), ch_gt (by omega)]
    simp
theorem newton_step (n p : Nat) : ∀ m : Nat, sZ (fun j => (ch n j : Int) * hh (p + 1) j) (m + 1) = (n : Int) * sZ (fun j => (ch n j : Int) * hh p j) m + (m : Int) * ((ch n m : Int) * hh p m)
  | 0 => by
    show 0 + (ch n 0 : Int) * hh (p + 1) 0 = _
    have : hh (p + 1) 0 = 0 := rfl
    rw [this]
    simp [sZ]
  | m + 1 => by
    have ih := newton_step n p m
    have h1 := ch_stepZ n m
    show sZ (fun j => (ch n j : Int) * hh (p + 1) j) (m + 1) + (ch n (m + 1) : Int) * hh (p + 1) (m + 1) = (n : Int) * (sZ (fun j => (ch n j : Int) * hh p j) m + (ch n m : Int) * hh p m) + ((m + 1 : Nat) : Int) * ((ch n (m + 1) : Int) * hh p (m + 1))
    rw [ih]
    have e : hh (p + 1) (m + 1) = ((m : Int) + 1) * (hh p m + hh p (m + 1)) := rfl
    rw [e]
    have e2 : ((m + 1 : Nat) : Int) = (m : Int) + 1 := by omega
    rw [e2]
    generalize (ch n (m + 1) : Int) = a at *
    generalize (ch n m : Int) = b at *
    generalize hh p m = c at *
    generalize hh p (m + 1) = d at *
    generalize sZ (fun j => (ch n j : Int) * hh p j) m = s at *
    generalize (m : Int) = x at *
    generalize (n : Int) = y at *
    have h2 : a * ((x + 1) * (c + d)) = (a * (x + 1)) * c + (x + 1) * (a * d) := by grind
    rw [h2, h1]
    grind
theorem newton (n : Nat) : ∀ p : Nat, sZ (fun j => (ch n j : Int) * hh p j) (p + 1) = (n : Int) ^ p
  | 0 => by
    show 0 + (ch n 0 : Int) * hh 0 0 = _
    rw [ch_zero]
    rfl
  | p + 1 => by
    rw [newton_step n p (p + 1), newton n p, hh_gt (by omega), Int.pow_succ]
    simp [Int.mul_comm]
theorem sZ_congr {f g : Nat → Int} : ∀ {m : Nat}, (∀ j, j < m → f j = g j) → sZ f m = sZ g m
  | 0, _ => rfl
  | m + 1, h => by
    show sZ f m + f m = sZ g m + g m
    rw [sZ_congr fun j hj => h j (by omega), h m (by omega)]
theorem sZ_add {f g : Nat → Int} : ∀ (m : Nat), sZ (fun j => f j + g j) m = sZ f m + sZ g m
  | 0 => rfl
  | m + 1 => by
    show sZ (fun j => f j + g j) m + (f m + g m) = sZ f m + f m + (sZ g m + g m)
    rw [sZ_add m]
    omega
theorem sZ_zero {f : Nat → Int} : ∀ {m : Nat}, (∀ j, j < m → f j = 0) → sZ f m = 0
  | 0, _ => rfl
  | m + 1, h => by
    show sZ f m + f m = 0
    rw [sZ_zero fun j hj => h j (by omega), h m (by omega)]
    rfl
/-- sums of powers -/
def ps (p : Nat) (n : Nat) : Int := sZ (fun i => (i : Int) ^ p) n
theorem sums_pow (p : Nat) : ∀ n : Nat, sZ (fun j => hh p j * (ch n (j + 1) : Int)) (p + 1) = ps p n
  | 0 => sZ_zero fun j _ => by
    have : ch 0 (j + 1) = 0 := rfl
    rw [this]
    simp
  | n + 1 => by
    have e : ∀ j, j < p + 1 → hh p j * (ch (n + 1) (j + 1) : Int) = (ch n j : Int) * hh p j + hh p j * (ch n (j + 1) : Int) := fun j _ => by
      have : ch (n + 1) (j + 1) = ch n j + ch n (j + 1) := rfl
      rw [this, Int.natCast_add, Int.mul_add, Int.mul_comm]
    rw [sZ_congr e, sZ_add, newton, sums_pow p n]
    show (n : Int) ^ p + ps p n = ps p n + (n : Int) ^ p
    omega
theorem ps_succ (p n : Nat) : ps p (n + 1) = ps p n + (n : Int) ^ p := rfl
theorem ps0 : ∀ n : Nat, ps 0 n = n
  | 0 => rfl
  | n + 1 => by
    rw [ps_succ, ps0 n]
    simp
theorem ps1 : ∀ n : Nat, 2 * ps 1 n = (n : Int) * ((n : Int) - 1)
  | 0 => rfl
  | n + 1 => by
    have ih := ps1 n
    rw [ps_succ, Int.natCast_add]
    generalize ps 1 n = s at *
    generalize (n : Int) = y at *
    have : ((1 : Nat) : Int) = 1 := rfl
    rw [this]
    grind
theorem ps2 : ∀ n : Nat, 6 * ps 2 n = (n : Int) * ((n : Int) - 1) * (2 * (n : Int) - 1)
  | 0 => rfl
  | n + 1 => by
    have ih := ps2 n
    rw [ps_succ, Int.natCast_add]
    generalize ps 2 n = s at *
    generalize (n : Int) = y at *
    have : ((1 : Nat) : Int) = 1 := rfl
    rw [this]
    grind
theorem ps3 : ∀ n : Nat, 4 * ps 3 n = ((n : Int) * ((n : Int) - 1)) * ((n : Int) * ((n : Int) - 1))
  | 0 => rfl
  | n + 1 => by
    have ih := ps3 n
    rw [ps_succ, Int.natCast_add]
    generalize ps 3 n = s at *
    generalize (n : Int) = y at *
    have : ((1 : Nat) : Int) = 1 := rfl
    rw [this]
    grind
/-! as lists -/
def Hn (p : Nat) : List Int := (List.range (p + 1)).map (hh p)
def vals (p : Nat) (n : Nat) : List Int := (List.range n).map fun (i : Nat) => (i : Int) ^ p
theorem mi_range (f : Nat → Int → Int) (g : Nat → Int) : ∀ (m k : Nat), mi f k ((List.range' k m).map g) = (List.range' k m).map fun j => f j (g j)
  | 0, _ => rfl
  | m + 1, k => by
    rw [List.range'_succ, List.map_cons, List.map_cons, mi, mi_range f g m (k + 1)]
theorem sum_range (f : Nat → Int) : ∀ m : Nat, ((List.range m).map f).sum = sZ f m
  | 0 => rfl
  | m + 1 => by
    rw [List.range_succ, List.map_append, List.sum_append, sum_range f m]
    simp [sZ]
theorem mi_sum (f : Nat → Int → Int) (g : Nat → Int) (m : Nat) : (mi f 0 ((List.range m).map g)).sum = sZ (fun j => f j (g j)) m := by
  rw [List.range_eq_range', mi_range f g m 0, ← List.range_eq_range', sum_range]
theorem byHeads_Hn (p n : Nat) : byHeads (Hn p) n = (n : Int) ^ p := by
  unfold byHeads Hn
  rw [mi_sum]
  exact newton n p
theorem sumPow_Hn (p n : Nat) : (mi (fun j v => v * (ch n (j + 1) : Int)) 0 (Hn p)).sum = ps p n := by
  unfold Hn
  rw [mi_sum]
  exact sums_pow p n
theorem sum_vals (p n : Nat) : (vals p n).sum = ps p n := sum_range _ n
/-! differences -/
def dif : List Int → List Int
  | x :: y :: r => (y - x) :: dif (y :: r)
  | _ => []
def difN : Nat → List Int → List Int
  | 0, xs => xs
  | n + 1, xs => dif (difN n xs)
theorem dif_len : ∀ xs : List Int, (dif xs).length = xs.length - 1
  | [] => rfl
  | [_] => rfl
  | x :: y :: r => by
    rw [dif, List.length_cons, dif_len (y :: r)]
    simp
theorem difN_len : ∀ (n : Nat) (xs : List Int), (difN n xs).length = xs.length - n
  | 0, _ => rfl
  | n + 1, xs => by
    rw [difN, dif_len, difN_len n xs]
    omega
def due (xs : List Int) : List Int := (List.range xs.length).map fun i => (difN i xs).headD 0
set_option maxHeartbeats 4000000 in
theorem heads_finite : ∀ p, p < 21 → backs (vals p (p + 1)) = Hn p ∧ due (vals p (p + 1)) = Hn p := by decide +kernel
theorem degree_finite : ∀ p, p < 7 → (strip (backs (vals p 8))).length = p + 1 := by decide +kernel
theorem Hn_small : ∀ p, p < 21 → ∀ x ∈ Hn p, x.natAbs < 2 ^ 100 := by decide +kernel
end Pd

/-! powers: what the defs do -/
namespace Pd
open PySem PySem.Spec PyProof.Rows L2
section
variable {Γ : Tab}
theorem pow_bits {n : Int} (h : n.natAbs < 2 ^ 64) (i : Nat) : (n ^ i).natAbs < 2 ^ (64 * i + 1) := by
  rw [Int.natAbs_pow]
  have h1 := pow_lt_bits h i
  have h2 : (2 : Nat) ^ (64 * i) < 2 ^ (64 * i + 1) := Nat.pow_lt_pow_right (by omega) (by omega)
  omega
def irPower : Sms := (.cons (.asg 2 (.cst (.int (1))) false) (.cons (.for_ (.nm 3) (.rng (.cons (.var 1) .nil)) (.cons (.asg 2 (.bin .mul (.var 2) (.var 0)) false) .nil)) (.cons (.ret (.var 2)) .nil)))
def fPower : Run
  | [.int n, .int p] => if n.natAbs < 2 ^ 64 ∧ 0 ≤ p ∧ p ≤ 1000 then some (.va (.int (n ^ p.toNat)), []) else none
  | _ => none
theorem run_power {n : Int} {p : Nat} (hn : n.natAbs < 2 ^ 64) (hp : p ≤ 1000) : fPower [.int n, .int (p : Int)] = some (.va (.int (n ^ p)), []) := by
  unfold fPower
  dsimp only
  rw [if_pos ⟨hn, by omega, by omega⟩, Int.toNat_natCast]
theorem src_nat {env : EnvD} {a : Ex} {m : Nat} (h : evE Γ a env = some (.va (.int (m : Int)), env)) (hm : m ≤ 1000000) : evS Γ (.rng (.cons a .nil)) env = some ((List.range' 0 m).map fun (k : Nat) => PyData.int (k : Int), env) := by
  have hi : ints3 [.int (m : Int)] = some ((List.range m).map fun (k : Nat) => (k : Int)) := ints1 (b := (m : Int)) (by omega)
  have z := xr_rng (xs_cons h xs_nil) (ds := [.int (m : Int)]) rfl hi
  rw [items_nat] at z
  exact z
theorem does_power : Does fPower Γ false 4 irPower := by
  intro ds z h
  unfold fPower at h
  split at h
  · rename_i n p
    split at h
    · rename_i hh
      obtain ⟨hn, p0, p1⟩ := hh
      cases h
      obtain ⟨p, rfl⟩ := Int.eq_ofNat_of_zero_le p0
      rw [Int.toNat_natCast]
      obtain ⟨x', hx⟩ := forL_range (tg := fun d e => asgT Γ (.nm 3) d e) (b := fun e => exSs Γ nF (.cons (.asg 2 (.bin .mul (.var 2) (.var 0)) false) .nil) e)
        (fun (x : Cell) (s : Int) => [.va (.int n), .va (.int (p : Int)), .va (.int s), x]) (fun i => n ^ i) (fun i => .int (i : Int)) p 0 (fun i _ hi x => ⟨.va (.int (i : Int)), by
          have m1 : mulOk (n ^ i) n = true := mulOk_of (64 * i + 1) 64 (pow_bits hn i) hn (by omega)
          show exSs Γ nF _ [.va (.int n), .va (.int (p : Int)), .va (.int (n ^ i)), .va (.int (i : Int))] = _
          rw [Int.pow_succ]
          exact y_nx (y_asgV (x_mul rfl rfl rfl rfl m1) rfl rfl) y_nil⟩) .no
      rw [Nat.zero_add, Int.pow_zero] at hx
      have hs : evS Γ (.rng (.cons (.var 1) .nil)) [.va (.int n), .va (.int (p : Int)), .va (.int 1), .no] = some ((List.range' 0 p).map fun (k : Nat) => PyData.int (k : Int), [.va (.int n), .va (.int (p : Int)), .va (.int 1), .no]) := src_nat rfl (by omega)
      exact y_run (out := .rt (.va (.int (n ^ p))) [.va (.int n), .va (.int (p : Int)), .va (.int (n ^ p)), x']) (y_nx (e1 := [.va (.int n), .va (.int (p : Int)), .va (.int 1), .no]) (y_asgV rfl rfl rfl) (y_nx (y_for hs hx) (y_rt (y_retV rfl)))) rfl
    · cases h
  · cases h
/-- heads_of_power -/
def irHeadsP (b : Nat) : Sms := (.cons (.asg 1 (.lst .nil) false) (.cons (.for_ (.nm 2) (.rng (.cons (.bin .add (.var 0) (.cst (.int (1)))) .nil)) (.cons (.asg 3 (.cst (.int (1))) false) (.cons (.for_ (.nm 4) (.rng (.cons (.var 0) .nil)) (.cons (.asg 3 (.bin .mul (.var 3) (.var 2)) false) .nil)) (.cons (.exp (.mut .append 1 (.cons (.var 3) .nil))) .nil)))) (.cons (.ret (.call b (.cons (.var 1) .nil) .nil [0])) .nil)))
def fHeadsP : Run
  | [.int p] => if 0 ≤ p ∧ p ≤ 20 then some (.ow ((Hn p.toNat).map .int), []) else none
  | _ => none
theorem run_headsP {p : Nat} (hp : p ≤ 20) : fHeadsP [.int (p : Int)] = some (.ow ((Hn p).map .int), []) := by
  unfold fHeadsP
  dsimp only
  rw [if_pos ⟨by omega, by omega⟩, Int.toNat_natCast]
theorem vals_succ (p n : Nat) : vals p (n + 1) = vals p n ++ [(n : Int) ^ p] := by
  unfold vals
  rw [List.range_succ, List.map_append]
  rfl
theorem vals_len (p n : Nat) : (vals p n).length = n := by
  unfold vals
  simp
theorem vals_big {p n : Nat} (hp : p ≤ 1000) (hn : n ≤ 1000) : ∀ x ∈ vals p n, big x := fun x hx => by
  unfold vals at hx
  obtain ⟨i, hi, e⟩ := List.mem_map.mp hx
  rw [List.mem_range] at hi
  subst e
  have h1 : ((i : Int)).natAbs < 2 ^ 64 := by omega
  have h2 := pow_bits h1 p
  have h3 : (2 : Nat) ^ (64 * p + 1) ≤ 2 ^ 100000 := Nat.pow_le_pow_right (by omega) (by omega)
  unfold big
  omega
theorem does_headsP {b : Nat} (h1 : Γ b = some ⟨false, fBack⟩) : Does fHeadsP Γ false 5 (irHeadsP b) := by
  intro ds z h
  unfold fHeadsP at h
  split at h
  · rename_i p
    split at h
    · rename_i hh
      obtain ⟨p0, p1⟩ := hh
      cases h
      obtain ⟨p, rfl⟩ := Int.eq_ofNat_of_zero_le p0
      rw [Int.toNat_natCast]
      -- the inner loop
      have inner : ∀ (k : Nat) (vs : List Int) (y : Cell), k ≤ 20 → ∃ y', exS Γ nF (.for_ (.nm 4) (.rng (.cons (.var 0) .nil)) (.cons (.asg 3 (.bin .mul (.var 3) (.var 2)) false) .nil)) [.va (.int (p : Int)), .ow (vs.map .int), .va (.int (k : Int)), .va (.int 1), y] = some (.nx [.va (.int (p : Int)), .ow (vs.map .int), .va (.int (k : Int)), .va (.int ((k : Int) ^ p)), y']) := fun k vs y hk => by
        have hk64 : ((k : Int)).natAbs < 2 ^ 64 := by omega
        obtain ⟨x', hx⟩ := forL_range (tg := fun d e => asgT Γ (.nm 4) d e) (b := fun e => exSs Γ nF (.cons (.asg 3 (.bin .mul (.var 3) (.var 2)) false) .nil) e)
          (fun (x : Cell) (s : Int) => [.va (.int (p : Int)), .ow (vs.map .int), .va (.int (k : Int)), .va (.int s), x]) (fun i => (k : Int) ^ i) (fun i => .int (i : Int)) p 0 (fun i _ hi x => ⟨.va (.int (i : Int)), by
            have m1 : mulOk ((k : Int) ^ i) (k : Int) = true := mulOk_of (64 * i + 1) 64 (pow_bits hk64 i) hk64 (by omega)
            show exSs Γ nF _ [.va (.int (p : Int)), .ow (vs.map .int), .va (.int (k : Int)), .va (.int ((k : Int) ^ i)), .va (.int (i : Int))] = _
            rw [Int.pow_succ]
            exact y_nx (y_asgV (x_mul rfl rfl rfl rfl m1) rfl rfl) y_nil⟩) y
        rw [Nat.zero_add, Int.pow_zero] at hx
        exact ⟨x', y_for (src_nat rfl (by omega)) hx⟩
      obtain ⟨x', hx⟩ := forL_range (tg := fun d e => asgT Γ (.nm 2) d e) (b := fun e => exSs Γ nF (.cons (.asg 3 (.cst (.int (1))) false) (.cons (.for_ (.nm 4) (.rng (.cons (.var 0) .nil)) (.cons (.asg 3 (.bin .mul (.var 3) (.var 2)) false) .nil)) (.cons (.exp (.mut .append 1 (.cons (.var 3) .nil))) .nil))) e)
        (fun (x : Cell × Cell × Cell) (s : List Int) => [.va (.int (p : Int)), .ow (s.map .int), x.1, x.2.1, x.2.2]) (fun i => vals p i) (fun i => .int (i : Int)) (p + 1) 0 (fun i _ hi x => by
          obtain ⟨y', hy⟩ := inner i (vals p i) x.2.2 (by omega)
          refine ⟨(.va (.int (i : Int)), .va (.int ((i : Int) ^ p)), y'), ?_⟩
          have hm : mutD .append ((vals p i).map .int) [.int ((i : Int) ^ p)] = some ((vals p (i + 1)).map .int, .none) := by
            rw [vals_succ, List.map_append]
            exact if_pos (by rw [List.length_map, vals_len]; omega)
          show exSs Γ nF _ [.va (.int (p : Int)), .ow ((vals p i).map .int), .va (.int (i : Int)), x.2.1, x.2.2] = _
          exact y_nx (y_asgV rfl rfl rfl) (y_nx hy (y_nx (y_exp (x_mutO rfl (xs_cons rfl xs_nil) rfl rfl hm rfl)) y_nil))) (.no, .no, .no)
      rw [Nat.zero_add] at hx
      have hs : evS Γ (.rng (.cons (.bin .add (.var 0) (.cst (.int (1)))) .nil)) [.va (.int (p : Int)), .ow [], .no, .no, .no] = some ((List.range' 0 (p + 1)).map fun (k : Nat) => PyData.int (k : Int), [.va (.int (p : Int)), .ow [], .no, .no, .no]) := src_nat (m := p + 1) (x_binV rfl rfl rfl rfl rfl) (by omega)
      have c1 := run_back (seqI_li (vals p (p + 1))) (by rw [vals_len]; omega) (vals_big (by omega) (by omega))
      rw [(heads_finite p (by omega)).1] at c1
      exact y_run (y_nx (y_asgO (x_lst xs_nil rfl (by simp)) rfl rfl) (y_nx (y_for hs hx) (y_rt (y_retO (x_callL h1 (xs_cons rfl xs_nil) xs_nil rfl rfl c1))))) rfl
    · cases h
  · cases h
/-- power_heads -/
def irPowerHeads (w h : Nat) : Sms := (.cons (.exp (.call w (.cons (.var 0) .nil) .nil [0])) (.cons (.ret (.call h (.cons (.var 0) .nil) .nil [0])) .nil))
theorem does_powerHeads {w h : Nat} (h1 : Γ w = some ⟨false, fWant 0 20⟩) (h2 : Γ h = some ⟨false, fHeadsP⟩) : Does fHeadsP Γ false 1 (irPowerHeads w h) := by
  intro ds z hz
  have hz' := hz
  unfold fHeadsP at hz
  split at hz
  · rename_i p
    split at hz
    · rename_i hh
      cases hz
      have c1 : fWant 0 20 [.int p] = some (.va .none, []) := if_pos hh
      exact y_run (y_nx (y_exp (x_callV h1 (xs_cons rfl xs_nil) xs_nil rfl rfl c1)) (y_rt (y_retO (x_callL h2 (xs_cons rfl xs_nil) xs_nil rfl rfl hz')))) rfl
    · cases hz
  · cases hz
/-- difference_heads -/
def fDiffHeads : Run
  | [d] => (seqI d).bind fun xs => if smallN xs then some (.ow ((backs xs).map .int), []) else none
  | _ => none
theorem run_diffHeads {d : PyData} {xs : List Int} (hx : seqI d = some xs) (hs : smallN xs) : fDiffHeads [d] = some (.ow ((backs xs).map .int), []) := by
  unfold fDiffHeads
  dsimp only
  rw [hx]
  exact if_pos hs
theorem does_diffHeads {w b : Nat} (h1 : Γ w = some ⟨false, fWantN⟩) (h2 : Γ b = some ⟨false, fBack⟩) : Does fDiffHeads Γ false 1 (irPowerHeads w b) := by
  intro ds z h
  unfold fDiffHeads at h
  split at h
  · rename_i d
    rw [Option.bind_eq_some_iff] at h
    obtain ⟨xs, hx, h⟩ := h
    split at h
    · rename_i hs
      cases h
      have c1 := run_wantN hx hs
      have c2 := run_back hx (by have := hs.1; omega) fun x hx' => small_big (hs.2 x hx')
      exact y_run (y_nx (y_exp (x_callV h1 (xs_cons rfl xs_nil) xs_nil rfl rfl c1)) (y_rt (y_retO (x_callL h2 (xs_cons rfl xs_nil) xs_nil rfl rfl c2)))) rfl
    · cases h
  · cases h
/-- sum_of_powers -/
def irSumPow (w c k h : Nat) : Sms := (.cons (.exp (.call w (.cons (.var 0) .nil) .nil [0])) (.cons (.exp (.call c (.cons (.var 1) (.cons (.cst (.int (1000000))) .nil)) .nil [0, 1])) (.cons (.ret (.bi .sum (.cons (.comp (.bin .mul (.var 3) (.call k (.cons (.var 1) (.cons (.bin .add (.var 2) (.cst (.int (1)))) .nil)) .nil [0, 1])) (.tp (.cons (.nm 2) (.cons (.nm 3) .nil))) (.enum (.call h (.cons (.var 0) .nil) .nil [0])) .nil [2, 3]) .nil))) .nil)))
def fSumPow : Run
  | [.int p, .int n] => if 0 ≤ p ∧ p ≤ 20 ∧ 0 ≤ n ∧ n ≤ 1000000 then some (.va (.int (ps p.toNat n.toNat)), []) else none
  | _ => none
theorem run_sumPow {p n : Nat} (hp : p ≤ 20) (hn : n ≤ 1000000) : fSumPow [.int (p : Int), .int (n : Int)] = some (.va (.int (ps p n)), []) := by
  unfold fSumPow
  dsimp only
  rw [if_pos ⟨by omega, by omega, by omega, by omega⟩, Int.toNat_natCast, Int.toNat_natCast]
theorem Hn_len (p : Nat) : (Hn p).length = p + 1 := by
  unfold Hn
  simp
theorem Hn_big {p : Nat} (hp : p < 21) : ∀ x ∈ Hn p, big x := fun x hx => by
  have h1 := Hn_small p hp x hx
  have h3 : (2 : Nat) ^ 100 ≤ 2 ^ 100000 := Nat.pow_le_pow_right (by omega) (by omega)
  unfold big
  omega
theorem does_sumPow {w c k h : Nat} (h1 : Γ w = some ⟨false, fWant 0 20⟩) (h2 : Γ c = some ⟨false, fCount⟩) (h3 : Γ k = some ⟨false, fChoose⟩) (h4 : Γ h = some ⟨false, fHeadsP⟩) : Does fSumPow Γ false 4 (irSumPow w c k h) := by
  intro ds z hz
  unfold fSumPow at hz
  split at hz
  · rename_i p n
    split at hz
    · rename_i hh
      obtain ⟨p0, p1, n0, n1⟩ := hh
      cases hz
      have c1 : fWant 0 20 [.int p] = some (.va .none, []) := if_pos ⟨p0, p1⟩
      have c2 : fCount [.int n, .int 1000000] = some (.va .none, []) := if_pos ⟨n0, n1⟩
      obtain ⟨p, rfl⟩ := Int.eq_ofNat_of_zero_le p0
      obtain ⟨n, rfl⟩ := Int.eq_ofNat_of_zero_le n0
      rw [Int.toNat_natCast, Int.toNat_natCast]
      have c4 := run_headsP (p := p) (by omega)
      have hc : evE Γ (.comp (.bin .mul (.var 3) (.call k (.cons (.var 1) (.cons (.bin .add (.var 2) (.cst (.int (1)))) .nil)) .nil [0, 1])) (.tp (.cons (.nm 2) (.cons (.nm 3) .nil))) (.enum (.call h (.cons (.var 0) .nil) .nil [0])) .nil [2, 3]) [.va (.int (p : Int)), .va (.int (n : Int)), .no, .no] = some (.ow ((mi (fun j v => v * (ch n (j + 1) : Int)) 0 (Hn p)).map .int), [.va (.int (p : Int)), .va (.int (n : Int)), .no, .no]) := by
        refine comp_enum (W := [.va (.int (p : Int)), .va (.int (n : Int)), .no, .no]) (fun j v => v * (ch n (j + 1) : Int)) (x_callL h4 (xs_cons rfl xs_nil) xs_nil rfl rfl c4) rfl rfl (by rw [Hn_len]; omega) rfl rfl (fun j v hv => ?_) rfl (fun k v => rfl) rfl
        have hj : j < p + 1 := by
          have := (List.getElem?_eq_some_iff.mp hv).1
          rw [Hn_len] at this
          exact this
        have hbv : big v := Hn_big (by omega) v (List.mem_of_getElem? hv)
        have c := run_choose (n := n) (k := j + 1) (by omega) (by omega) (by omega)
        have m := mulOk_ch (n := n) (k := j + 1) (by omega) (by omega) hbv
        rw [mulOk_comm] at m
        exact x_mul rfl (x_callV h3 (xs_cons rfl (xs_cons (x_binV rfl rfl rfl rfl rfl) xs_nil)) xs_nil rfl rfl c) rfl rfl m
      have hsum := sum_li (mi (fun j v => v * (ch n (j + 1) : Int)) 0 (Hn p))
      rw [sumPow_Hn] at hsum
      exact y_run (y_nx (y_exp (x_callV h1 (xs_cons rfl xs_nil) xs_nil rfl rfl c1)) (y_nx (y_exp (x_callV h2 (xs_cons rfl (xs_cons rfl xs_nil)) xs_nil rfl rfl c2)) (y_rt (y_retV (x_biV (xs_cons hc xs_nil) rfl hsum))))) rfl
    · cases hz
  · cases hz
end
end Pd

/-! k97: the law's own defs -/
namespace Pd
open PySem PySem.Spec PyProof.Rows L2
section
variable {Γ : Tab}
def irRows : Sms := (.cons (.par [1, 2] (.cons (.lst .nil) (.cons (.bi .list (.cons (.var 0) .nil)) .nil))) (.cons (.for_ (.nm 3) (.rng (.cons (.bi .len (.cons (.var 0) .nil)) .nil)) (.cons (.exp (.mut .append 1 (.cons (.var 2) .nil))) (.cons (.asg 2 (.comp (.bin .sub (.var 5) (.var 4)) (.tp (.cons (.nm 4) (.cons (.nm 5) .nil))) (.zip (.var 2) (.slc (.var 2) (.yes (.cst (.int (1)))) .no)) .nil [4, 5]) false) .nil))) (.cons (.ret (.var 1)) .nil)))
theorem zip_dif (r : PyData → PyData) (hr : ∀ a b : Int, r (.tuple [.int a, .int b]) = .int (b - a)) : ∀ xs : List Int, (zipF (xs.map PyData.int) ((xs.drop 1).map PyData.int)).map r = (dif xs).map PyData.int
  | [] => rfl
  | [_] => rfl
  | x :: y :: t => by
    have ih := zip_dif r hr (y :: t)
    show r (.tuple [.int x, .int y]) :: (zipF ((y :: t).map PyData.int) (((y :: t).drop 1).map PyData.int)).map r = PyData.int (y - x) :: (dif (y :: t)).map PyData.int
    rw [ih, hr]
theorem zip_mem : ∀ {xs ys : List Int} {d : PyData}, d ∈ zipF (xs.map PyData.int) (ys.map PyData.int) → ∃ a b : Int, d = .tuple [.int a, .int b]
  | [], ys, d, h => by cases ys <;> cases h
  | x :: xs, [], d, h => by cases h
  | x :: xs, y :: ys, d, h => by
    have h : d ∈ PyData.tuple [.int x, .int y] :: zipF (xs.map PyData.int) (ys.map PyData.int) := h
    rcases List.mem_cons.mp h with z | z
    · exact ⟨x, y, z⟩
    · exact zip_mem z
def rowsN (n : Nat) (xs : List Int) : List PyData := (List.range n).map fun i => li (difN i xs)
def fRows : Run
  | [d] => (seqI d).bind fun xs => if xs.length ≤ 1000 then some (.ow (rowsN xs.length xs), []) else none
  | _ => none
theorem run_rows {d : PyData} {xs : List Int} (hx : seqI d = some xs) (hl : xs.length ≤ 1000) : fRows [d] = some (.ow (rowsN xs.length xs), []) := by
  unfold fRows
  dsimp only
  rw [hx]
  exact if_pos hl
theorem list_seq {d : PyData} {xs : List Int} (h : seqI d = some xs) : biD .list [d] = some (.ow (xs.map .int)) := by
  unfold seqI at h
  split at h
  · rw [allInts_eq h]
    rfl
  · rw [allInts_eq h]
    rfl
  · cases h
theorem does_rows : Does fRows Γ false 6 irRows := by
  intro ds z h
  unfold fRows at h
  split at h
  · rename_i d
    rw [Option.bind_eq_some_iff] at h
    obtain ⟨xs, hx, h⟩ := h
    split at h
    · rename_i hl
      cases h
      obtain ⟨x', hh⟩ := forL_range (tg := fun d e => asgT Γ (.nm 3) d e) (b := fun e => exSs Γ nF (.cons (.exp (.mut .append 1 (.cons (.var 2) .nil))) (.cons (.asg 2 (.comp (.bin .sub (.var 5) (.var 4)) (.tp (.cons (.nm 4) (.cons (.nm 5) .nil))) (.zip (.var 2) (.slc (.var 2) (.yes (.cst (.int (1)))) .no)) .nil [4, 5]) false) .nil)) e)
        (fun (x : Cell) (s : List PyData × List Int) => [.va d, .ow s.1, .ow (s.2.map .int), x, .no, .no]) (fun i => (rowsN i xs, difN i xs)) (fun i => .int (i : Int)) xs.length 0 (fun i _ hi x => ⟨.va (.int (i : Int)), by
          show exSs Γ nF _ [.va d, .ow (rowsN i xs), .ow ((difN i xs).map .int), .va (.int (i : Int)), .no, .no] = some (.nx [.va d, .ow (rowsN (i + 1) xs), .ow ((difN (i + 1) xs).map .int), .va (.int (i : Int)), .no, .no])
          have hm : mutD .append (rowsN i xs) [li (difN i xs)] = some (rowsN (i + 1) xs, .none) := by
            have e : rowsN (i + 1) xs = rowsN i xs ++ [li (difN i xs)] := by
              unfold rowsN
              rw [List.range_succ, List.map_append]
              rfl
            rw [e]
            refine if_pos ?_
            unfold rowsN
            rw [List.length_map, List.length_range]
            omega
          have hs : slcD (li (difN i xs)) (some 1) none = some (.ow (((difN i xs).drop 1).map .int)) := by
            show some (Rv.ow (cutD ((difN i xs).map PyData.int) (some ((1 : Nat) : Int)) none)) = _
            rw [cut_map, cut_drop]
          have hc := comp_gen (Γ := Γ) (env := [.va d, .ow (rowsN (i + 1) xs), .va (li (difN i xs)), .va (.int (i : Int)), .no, .no]) (e1 := [.va d, .ow (rowsN (i + 1) xs), .va (li (difN i xs)), .va (.int (i : Int)), .no, .no]) (W := [.va d, .ow (rowsN (i + 1) xs), .va (li (difN i xs)), .va (.int (i : Int)), .no, .no]) (e3 := [.va d, .ow (rowsN (i + 1) xs), .va (li (difN i xs)), .va (.int (i : Int)), .no, .no])
            (el := .bin .sub (.var 5) (.var 4)) (tg := .tp (.cons (.nm 4) (.cons (.nm 5) .nil))) (sr := .zip (.var 2) (.slc (.var 2) (.yes (.cst (.int (1)))) .no)) (own := [4, 5]) (items := zipF ((difN i xs).map .int) (((difN i xs).drop 1).map .int)) (fun d => match d with
              | .tuple [.int a, .int b] => .int (b - a)
              | _ => .none) (xr_zip (x := li (difN i xs)) (y := li ((difN i xs).drop 1)) rfl (x_slcO rfl (xo_yes rfl) xo_no rfl hs) rfl rfl) (by rw [zipF_len, List.length_map, difN_len]; omega) rfl (fun t ht => by
                obtain ⟨u, v, e⟩ := zip_mem ht
                subst e
                exact ⟨_, _, _, _, rfl, x_binV (d := .int (v - u)) rfl rfl rfl rfl rfl, rfl, rfl⟩) rfl
          rw [zip_dif _ (fun a b => by rfl)] at hc
          exact y_nx (y_exp (x_mutO rfl (xs_cons rfl xs_nil) rfl rfl hm rfl)) (y_nx (y_asgO hc rfl rfl) y_nil)⟩) .no
      rw [Nat.zero_add] at hh
      have hh : forL (fun d e => asgT Γ (.nm 3) d e) (fun e => exSs Γ nF (.cons (.exp (.mut .append 1 (.cons (.var 2) .nil))) (.cons (.asg 2 (.comp (.bin .sub (.var 5) (.var 4)) (.tp (.cons (.nm 4) (.cons (.nm 5) .nil))) (.zip (.var 2) (.slc (.var 2) (.yes (.cst (.int (1)))) .no)) .nil [4, 5]) false) .nil)) e) ((List.range' 0 xs.length).map fun (k : Nat) => PyData.int (k : Int)) [.va d, .ow [], .ow (xs.map .int), .no, .no, .no] = some (.nx [.va d, .ow (rowsN xs.length xs), .ow ((difN xs.length xs).map .int), x', .no, .no]) := hh
      have hs : evS Γ (.rng (.cons (.bi .len (.cons (.var 0) .nil)) .nil)) [.va d, .ow [], .ow (xs.map .int), .no, .no, .no] = some ((List.range' 0 xs.length).map fun (k : Nat) => PyData.int (k : Int), [.va d, .ow [], .ow (xs.map .int), .no, .no, .no]) := src_nat (x_biV (xs_cons rfl xs_nil) rfl (len_seq hx)) (by omega)
      exact y_run (y_nx (y_par (xs_cons (x_lst xs_nil rfl (by simp)) (xs_cons (x_biO (xs_cons rfl xs_nil) rfl (list_seq hx)) xs_nil)) rfl rfl) (y_nx (y_for hs hh) (y_rt (y_retS rfl rfl rfl)))) rfl
    · cases h
  · cases h
def hdD : PyData → PyData
  | .list (x :: _) => x
  | _ => .none
theorem map_head {n : Nat} {xs : List Int} (hn : n ≤ xs.length) : (rowsN n xs).map hdD = ((List.range n).map fun i => (difN i xs).headD 0).map PyData.int := by
  unfold rowsN
  rw [List.map_map, List.map_map]
  refine List.map_congr_left fun i hi => ?_
  rw [List.mem_range] at hi
  have hl := difN_len i xs
  show hdD (li (difN i xs)) = PyData.int ((difN i xs).headD 0)
  cases e : difN i xs with
  | nil =>
    rw [e] at hl
    simp at hl
    omega
  | cons y ys => rfl
theorem idx_0 (y : Int) (ys : List Int) : idxD (li (y :: ys)) (.int 0) = some (.int y) := L2.atI_nat (j := 0) rfl
theorem idx_map {f : Nat → Int} {n i : Nat} (h : i < n) : idxD (li ((List.range n).map f)) (.int (i : Int)) = some (.int (f i)) := by
  show L2.atI (((List.range n).map f).map PyData.int) (i : Int) = _
  refine L2.atI_nat (j := i) ?_
  rw [List.getElem?_map, List.getElem?_map, List.getElem?_range h]
  rfl
theorem cmp_ne_str (s : Str) : cmpD .ne (.str s) (.str s) = some false := by
  show some (!decide (s = s)) = _
  rw [decide_eq_true rfl]
  rfl
theorem repr_li {xs : List Int} (h : reprOk (li xs) = true) : biD .repr [li xs] = some (.va (.str (li xs).shown)) := if_pos h
theorem Hn_sh {p : Nat} (hp : p < 21) : ∀ x ∈ Hn p, sh x := fun x hx => by
  have h1 := Hn_small p hp x hx
  have h3 : (2 : Nat) ^ 100 ≤ 2 ^ 1000 := Nat.pow_le_pow_right (by omega) (by omega)
  unfold sh
  omega
theorem Hn_succ (p : Nat) : Hn (p + 1) = 0 :: (List.range (p + 1)).map fun (i : Nat) => ((i : Int) + 1) * (hh p i + (if i + 1 < p + 1 then hh p (i + 1) else 0)) := by
  unfold Hn
  rw [List.range_succ_eq_map, List.map_cons, List.map_map]
  congr 1
  refine List.map_congr_left fun i hi => ?_
  show hh (p + 1) (i + 1) = _
  rw [hh]
  split
  · rfl
  · rw [hh_gt (p := p) (j := i + 1) (by rw [List.mem_range] at hi; omega)]
theorem vals7 : ∀ p, p < 7 → smallN (vals p 8) := by decide +kernel
theorem nat_of {v m : Int} (h : 0 ≤ v ∧ v < m) : ∃ k : Nat, v = (k : Int) ∧ (k : Int) < m := by
  obtain ⟨k, e⟩ := Int.eq_ofNat_of_zero_le h.1
  exact ⟨k, e, by omega⟩
theorem run_draw {q a b m : Int} (hb : bOk b) (hm : 0 < m) (hm2 : m < 2 ^ 200) : fDraw q [.list [.int a, .int b], .int m] = some (.va (.int (draw q (a, b) m).1), potD (draw q (a, b) m).2.1 (draw q (a, b) m).2.2) := if_pos ⟨hb, hm, hm2⟩
theorem allBools_map2 (f : Int → Bool) (xs : List Int) : biD .all [.list (xs.map fun x => PyData.bool (f x))] = some (.va (.bool (xs.all f))) := by
  show (allBools (xs.map fun x => PyData.bool (f x))).map (fun bs => Rv.va (.bool (bs.all id))) = _
  have : allBools (xs.map fun x => PyData.bool (f x)) = some (xs.map f) := by
    induction xs with
    | nil => rfl
    | cons x xs ih =>
      show (allBools (xs.map fun x => PyData.bool (f x))).map (f x :: ·) = _
      rw [ih]
      rfl
  rw [this]
  show some (Rv.va (.bool ((xs.map f).all id))) = _
  rw [List.all_map]
  rfl
end
end Pd

/-! k97: heads right -/
namespace Pd
open PySem PySem.Spec PyProof.Rows L2
section
variable {Γ : Tab}
def irHeadsRight (dr pw rw' ph nb dg cw : Nat) : Sms := (.cons (.asg 1 (.call dr (.cons (.var 0) (.cons (.cst (.int (21))) .nil)) .nil [0, 1]) false) (.cons (.asg 2 (.comp (.call pw (.cons (.var 8) (.cons (.var 1) .nil)) .nil [0, 1]) (.nm 8) (.rng (.cons (.bin .add (.var 1) (.cst (.int (1)))) .nil)) .nil [8]) false) (.cons (.asg 3 (.comp (.idx (.var 9) (.cst (.int (0)))) (.nm 9) (.ex (.call rw' (.cons (.var 2) .nil) .nil [0])) .nil [9]) false) (.cons (.asg 4 (.call ph (.cons (.var 1) .nil) .nil [0]) false) (.cons (.ite (.or_ (.cmp .ne (.reprL (.cons (.var 4) (.cons (.call ph .nil (.cons (.var 1) .nil) [0]) .nil))) (.reprL (.cons (.var 3) (.cons (.var 3) .nil)))) (.or_ (.cmp .ne (.bi .len (.cons (.var 3) .nil)) (.bin .add (.var 1) (.cst (.int (1))))) (.cmp .ne (.idx (.var 3) (.cst (.int (0)))) (.bi .int (.cons (.cmp .eq (.var 1) (.cst (.int (0)))) .nil))))) (.cons (.ret (.cst (.bool false))) .nil) .nil) (.cons (.exp (.mut .append 4 (.cons (.cst .none) .nil))) (.cons (.ite (.cmp .ne (.bi .repr (.cons (.call ph (.cons (.var 1) .nil) .nil [0]) .nil)) (.bi .repr (.cons (.var 3) .nil))) (.cons (.ret (.cst (.bool false))) .nil) .nil) (.cons (.ite (.cmp .lt (.var 1) (.cst (.int (20)))) (.cons (.asg 5 (.call ph (.cons (.bin .add (.var 1) (.cst (.int (1)))) .nil) .nil [0]) false) (.cons (.ite (.cmp .ne (.var 5) (.bin .add (.lst (.cons (.cst (.int (0))) .nil)) (.comp (.bin .mul (.bin .add (.var 10) (.cst (.int (1)))) (.bin .add (.idx (.var 3) (.var 10)) (.ite (.cmp .lt (.bin .add (.var 10) (.cst (.int (1)))) (.bi .len (.cons (.var 3) .nil))) (.idx (.var 3) (.bin .add (.var 10) (.cst (.int (1))))) (.cst (.int (0)))))) (.nm 10) (.rng (.cons (.bin .add (.var 1) (.cst (.int (1)))) .nil)) .nil [10]))) (.cons (.ret (.cst (.bool false))) .nil) .nil) .nil)) .nil) (.cons (.asg 6 (.bi .all (.cons (.comp (.cmp .le (.bi .abs (.cons (.var 8) .nil)) (.bin .pow (.cst (.int (10))) (.cst (.int (12))))) (.nm 8) (.ex (.var 3)) .nil [8]) .nil)) false) (.cons (.asg 7 (.call dr (.cons (.var 0) (.cons (.cst (.int (40))) .nil)) .nil [0, 1]) false) (.cons (.ite (.and_ (.var 6) (.cmp .ne (.call nb (.cons (.var 3) (.cons (.var 7) .nil)) .nil [0, 1]) (.call pw (.cons (.var 7) (.cons (.var 1) .nil)) .nil [0, 1]))) (.cons (.ret (.cst (.bool false))) .nil) .nil) (.cons (.ite (.and_ (.cmp .lt (.var 1) (.cst (.int (7)))) (.cmp .ne (.call dg (.cons (.comp (.call pw (.cons (.var 8) (.cons (.var 1) .nil)) .nil [0, 1]) (.nm 8) (.rng (.cons (.cst (.int (8))) .nil)) .nil [8]) .nil) .nil [0]) (.var 1))) (.cons (.ret (.cst (.bool false))) .nil) .nil) (.cons (.ret (.cmp .eq (.bi .sum (.cons (.comp (.bin .mul (.var 8) (.call cw (.cons (.var 7) (.cons (.var 10) .nil)) .nil [0, 1])) (.tp (.cons (.nm 10) (.cons (.nm 8) .nil))) (.enum (.var 3)) .nil [10, 8]) .nil)) (.call pw (.cons (.var 7) (.cons (.var 1) .nil)) .nil [0, 1]))) .nil)))))))))))))
def fHeadsRight (q : Int) : Run
  | [.list [.int a, .int b]] => if bOk b then some (.va (.bool true), potD (draw q (draw q (a, b) 21).2 40).2.1 (draw q (draw q (a, b) 21).2 40).2.2) else none
  | _ => none
set_option maxHeartbeats 2000000 in
theorem does_headsRight {q : Int} {dr pw rw' ph nb dg cw : Nat} (h1 : Γ dr = some ⟨true, fDraw q⟩) (h2 : Γ pw = some ⟨false, fPower⟩) (h3 : Γ rw' = some ⟨false, fRows⟩) (h4 : Γ ph = some ⟨false, fHeadsP⟩) (h5 : Γ nb = some ⟨false, fNumberBy⟩) (h6 : Γ dg = some ⟨false, fDegree⟩) (h7 : Γ cw = some ⟨false, fChooseW⟩) :
    Does (fHeadsRight q) Γ true 11 (irHeadsRight dr pw rw' ph nb dg cw) := by
  intro ds z h
  unfold fHeadsRight at h
  split at h
  · rename_i a b
    split at h
    · rename_i hb
      cases h
      have d1 := run_draw (q := q) (a := a) (b := b) (m := 21) hb (by omega) (by omega)
      have l1 := draw_lt (q := q) (p := (a, b)) (m := 21) (by omega)
      have hb1 := bOk_draw (q := q) (p := (a, b)) (m := 21) hb
      generalize hD1 : draw q (a, b) 21 = D1 at *
      obtain ⟨v1, a1, b1⟩ := D1
      have hb1 : bOk b1 := hb1
      obtain ⟨p, ep, hp⟩ := nat_of (v := v1) l1
      subst ep
      have hp : p < 21 := by omega
      have d2 := run_draw (q := q) (a := a1) (b := b1) (m := 40) hb1 (by omega) (by omega)
      have l2 := draw_lt (q := q) (p := (a1, b1)) (m := 40) (by omega)
      show runD Γ nF true 11 _ _ = some (Rv.va (.bool true), potD (draw q (a1, b1) 40).2.1 (draw q (a1, b1) 40).2.2)
      generalize hD2 : draw q (a1, b1) 40 = D2 at *
      obtain ⟨v2, a2, b2⟩ := D2
      obtain ⟨c, ec, hc⟩ := nat_of (v := v2) l2
      subst ec
      have hc : c < 40 := by omega
      have d1 : fDraw q [.list (potD a b), .int 21] = some (.va (.int (p : Int)), potD a1 b1) := d1
      have d2 : fDraw q [.list (potD a1 b1), .int 40] = some (.va (.int (c : Int)), potD a2 b2) := d2
      -- 1: the exponent
      have s1 : exS Γ nF (.asg 1 (.call dr (.cons (.var 0) (.cons (.cst (.int (21))) .nil)) .nil [0, 1]) false) [.io (potD a b), .no, .no, .no, .no, .no, .no, .no, .no, .no, .no] = some (.nx [.io (potD a1 b1), .va (.int (p : Int)), .no, .no, .no, .no, .no, .no, .no, .no, .no]) :=
        y_asgV (x_callSI h1 (xs_cons rfl (xs_cons rfl xs_nil)) rfl rfl rfl d1 rfl) rfl rfl
      -- 2: the powers
      have p1 : ∀ k : Nat, k < 1000 → fPower [.int (k : Int), .int (p : Int)] = some (.va (.int ((k : Int) ^ p)), []) := fun k hk => run_power (n := (k : Int)) (by omega) (by omega)
      have c2 := comp_range (Γ := Γ) (env := [.io (potD a1 b1), .va (.int (p : Int)), .no, .no, .no, .no, .no, .no, .no, .no, .no]) (e1 := [.io (potD a1 b1), .va (.int (p : Int)), .no, .no, .no, .no, .no, .no, .no, .no, .no]) (W := [.io (potD a1 b1), .va (.int (p : Int)), .no, .no, .no, .no, .no, .no, .no, .no, .no]) (e3 := [.io (potD a1 b1), .va (.int (p : Int)), .no, .no, .no, .no, .no, .no, .no, .no, .no]) (es := .cons (.bin .add (.var 1) (.cst (.int (1)))) .nil) (ds := [.int ((p + 1 : Nat) : Int)]) (el := .call pw (.cons (.var 8) (.cons (.var 1) .nil)) .nil [0, 1]) (i := 8) (n := p + 1) (fun (k : Nat) => .int ((k : Int) ^ p)) (xs_cons (x_binV rfl rfl rfl rfl rfl) xs_nil) rfl (ints1 (b := ((p + 1 : Nat) : Int)) (by omega)) (by omega) rfl rfl
        (fun k hk => ⟨_, _, _, x_callV h2 (xs_cons rfl (xs_cons rfl xs_nil)) xs_nil rfl rfl (p1 k (by omega)), rfl, rfl⟩) rfl
      have e2 : (List.range (p + 1)).map (fun (k : Nat) => PyData.int ((k : Int) ^ p)) = (vals p (p + 1)).map .int := by
        unfold vals
        rw [List.map_map]
        rfl
      rw [e2] at c2
      have s2 := y_asgO (n := nF) (i := 2) (mv := false) (e2 := [.io (potD a1 b1), .va (.int (p : Int)), .ow ((vals p (p + 1)).map .int), .no, .no, .no, .no, .no, .no, .no, .no]) c2 rfl rfl
      -- 3: the heads by differences
      have r3 := run_rows (seqI_li (vals p (p + 1))) (by rw [vals_len]; omega)
      rw [vals_len] at r3
      have hrl : (rowsN (p + 1) (vals p (p + 1))).length ≤ 1000000 := by
        unfold rowsN
        rw [List.length_map, List.length_range]
        omega
      have c3 := comp_ex (Γ := Γ) (env := [.io (potD a1 b1), .va (.int (p : Int)), .ow ((vals p (p + 1)).map .int), .no, .no, .no, .no, .no, .no, .no, .no]) (e1 := [.io (potD a1 b1), .va (.int (p : Int)), .va (li (vals p (p + 1))), .no, .no, .no, .no, .no, .no, .no, .no]) (e2 := [.io (potD a1 b1), .va (.int (p : Int)), .va (li (vals p (p + 1))), .no, .no, .no, .no, .no, .no, .no, .no]) (W := [.io (potD a1 b1), .va (.int (p : Int)), .va (li (vals p (p + 1))), .no, .no, .no, .no, .no, .no, .no, .no]) (e3 := [.io (potD a1 b1), .va (.int (p : Int)), .va (li (vals p (p + 1))), .no, .no, .no, .no, .no, .no, .no, .no]) (a := .call rw' (.cons (.var 2) .nil) .nil [0]) (o := .ow (rowsN (p + 1) (vals p (p + 1)))) (d := .list (rowsN (p + 1) (vals p (p + 1)))) (ds := rowsN (p + 1) (vals p (p + 1))) (el := .idx (.var 9) (.cst (.int (0)))) (i := 9) hdD (x_callL h3 (xs_cons rfl xs_nil) xs_nil rfl rfl r3) rfl rfl hrl rfl rfl (fun x hx => by
          unfold rowsN at hx
          obtain ⟨i, hi, e⟩ := List.mem_map.mp hx
          subst e
          rw [List.mem_range] at hi
          have hl := difN_len i (vals p (p + 1))
          rw [vals_len] at hl
          cases e : difN i (vals p (p + 1)) with
          | nil =>
            rw [e] at hl
            simp at hl
            omega
          | cons y ys => exact ⟨_, _, _, x_idx (d := .int y) rfl rfl rfl rfl (idx_0 y ys), rfl, rfl⟩) rfl
      rw [map_head (by rw [vals_len]; omega)] at c3
      have e3 : ((List.range (p + 1)).map fun i => (difN i (vals p (p + 1))).headD 0) = Hn p := by
        have := (heads_finite p hp).2
        unfold due at this
        rw [vals_len] at this
        exact this
      rw [e3] at c3
      have s3 := y_asgO (n := nF) (i := 3) (mv := false) (e2 := [.io (potD a1 b1), .va (.int (p : Int)), .va (li (vals p (p + 1))), .ow ((Hn p).map .int), .no, .no, .no, .no, .no, .no, .no]) c3 rfl rfl
      -- 4: the heads told
      have r4 := run_headsP (p := p) (by omega)
      have s4 : exS Γ nF (.asg 4 (.call ph (.cons (.var 1) .nil) .nil [0]) false) [.io (potD a1 b1), .va (.int (p : Int)), .va (li (vals p (p + 1))), .ow ((Hn p).map .int), .no, .no, .no, .no, .no, .no, .no] = some (.nx [.io (potD a1 b1), .va (.int (p : Int)), .va (li (vals p (p + 1))), .ow ((Hn p).map .int), .ow ((Hn p).map .int), .no, .no, .no, .no, .no, .no]) :=
        y_asgO (x_callL h4 (xs_cons rfl xs_nil) xs_nil rfl rfl r4) rfl rfl
      -- 5: the same, by name too; as many; the first
      have hsh := Shw.li (Hn_sh hp)
      rw [Hn_len] at hsh
      have hsm : 1005 * (p + 1) + 3 ≤ 30000 := by omega
      have rok : reprOk (.list [li (Hn p), li (Hn p)]) = true := by
        refine (shw_list (ds := [li (Hn p), li (Hn p)]) (m := 30000) fun d hd => ?_).ok (by show (30000 + 2) * 2 + 3 ≤ 16777216; omega)
        have ed : d = li (Hn p) := by
          rcases List.mem_cons.mp hd with z | z
          · exact z
          · exact List.mem_singleton.mp z
        subst ed
        have hd1 : (li (Hn p)).depth = 1 := by
          rw [show (li (Hn p)).depth = PyData.depthAll ((Hn p).map PyData.int) + 1 by rw [PyData.depth], depth_ints]
        exact ⟨hsh.lay, hsh.shw, by omega, Nat.le_trans hsh.siz hsm⟩
      have rok1 : reprOk (li (Hn p)) = true := hsh.ok (by omega)
      have i0 : idxD (li (Hn p)) (.int 0) = some (.int (hh p 0)) := idx_map (f := hh p) (n := p + 1) (i := 0) (by omega)
      have b0 : biD .int [.bool (decide ((p : Int) = 0))] = some (.va (.int (hh p 0))) := by
        cases p with
        | zero => rfl
        | succ k =>
          rw [decide_eq_false (by omega)]
          rfl
      have cl : cmpD .ne (.int ((Hn p).length : Int)) (.int ((p : Int) + 1)) = some false := by
        show some (!decide (((Hn p).length : Int) = (p : Int) + 1)) = _
        rw [Hn_len, decide_eq_true (by omega)]
        rfl
      have ci : cmpD .ne (.int (hh p 0)) (.int (hh p 0)) = some false := by
        show some (!decide (hh p 0 = hh p 0)) = _
        rw [decide_eq_true rfl]
        rfl
      have t5a : evE Γ (.cmp .ne (.reprL (.cons (.var 4) (.cons (.call ph .nil (.cons (.var 1) .nil) [0]) .nil))) (.reprL (.cons (.var 3) (.cons (.var 3) .nil)))) [.io (potD a1 b1), .va (.int (p : Int)), .va (li (vals p (p + 1))), .ow ((Hn p).map .int), .ow ((Hn p).map .int), .no, .no, .no, .no, .no, .no] = some (.va (.bool false), [.io (potD a1 b1), .va (.int (p : Int)), .va (li (vals p (p + 1))), .ow ((Hn p).map .int), .ow ((Hn p).map .int), .no, .no, .no, .no, .no, .no]) :=
        x_cmp (x_reprL (ds := [li (Hn p), li (Hn p)]) (xs_cons rfl (xs_cons (x_callL h4 xs_nil (xs_cons rfl xs_nil) rfl rfl r4) xs_nil)) rfl rok) (x_reprL (ds := [li (Hn p), li (Hn p)]) (xs_cons rfl (xs_cons rfl xs_nil)) rfl rok) rfl rfl (cmp_ne_str _)
      have t5b : evE Γ (.cmp .ne (.bi .len (.cons (.var 3) .nil)) (.bin .add (.var 1) (.cst (.int (1))))) [.io (potD a1 b1), .va (.int (p : Int)), .va (li (vals p (p + 1))), .ow ((Hn p).map .int), .ow ((Hn p).map .int), .no, .no, .no, .no, .no, .no] = some (.va (.bool false), [.io (potD a1 b1), .va (.int (p : Int)), .va (li (vals p (p + 1))), .ow ((Hn p).map .int), .ow ((Hn p).map .int), .no, .no, .no, .no, .no, .no]) :=
        x_cmp (x_biV (xs_cons rfl xs_nil) rfl (len_seq (seqI_li (Hn p)))) (x_binV rfl rfl rfl rfl rfl) rfl rfl cl
      have t5c : evE Γ (.cmp .ne (.idx (.var 3) (.cst (.int (0)))) (.bi .int (.cons (.cmp .eq (.var 1) (.cst (.int (0)))) .nil))) [.io (potD a1 b1), .va (.int (p : Int)), .va (li (vals p (p + 1))), .ow ((Hn p).map .int), .ow ((Hn p).map .int), .no, .no, .no, .no, .no, .no] = some (.va (.bool false), [.io (potD a1 b1), .va (.int (p : Int)), .va (li (vals p (p + 1))), .ow ((Hn p).map .int), .ow ((Hn p).map .int), .no, .no, .no, .no, .no, .no]) :=
        x_cmp (x_idx rfl rfl rfl rfl i0) (x_biV (xs_cons (x_cmp (t := decide ((p : Int) = 0)) rfl rfl rfl rfl rfl) xs_nil) rfl b0) rfl rfl ci
      have s5 := fun (sa : Sms) => y_ifF (n := nF) (sa := sa) (sb := .nil) (x_orF t5a (x_orF t5b t5c)) y_nil
      -- 6: what is told is new
      have m6 : mutD .append ((Hn p).map .int) [.none] = some ((Hn p).map .int ++ [.none], .none) := if_pos (by rw [List.length_map, Hn_len]; omega)
      have s6 : exS Γ nF (.exp (.mut .append 4 (.cons (.cst .none) .nil))) [.io (potD a1 b1), .va (.int (p : Int)), .va (li (vals p (p + 1))), .ow ((Hn p).map .int), .ow ((Hn p).map .int), .no, .no, .no, .no, .no, .no] = some (.nx [.io (potD a1 b1), .va (.int (p : Int)), .va (li (vals p (p + 1))), .ow ((Hn p).map .int), .ow ((Hn p).map .int ++ [.none]), .no, .no, .no, .no, .no, .no]) := y_exp (x_mutO rfl (xs_cons rfl xs_nil) rfl rfl m6 rfl)
      have t7 : evE Γ (.cmp .ne (.bi .repr (.cons (.call ph (.cons (.var 1) .nil) .nil [0]) .nil)) (.bi .repr (.cons (.var 3) .nil))) [.io (potD a1 b1), .va (.int (p : Int)), .va (li (vals p (p + 1))), .ow ((Hn p).map .int), .ow ((Hn p).map .int ++ [.none]), .no, .no, .no, .no, .no, .no] = some (.va (.bool false), [.io (potD a1 b1), .va (.int (p : Int)), .va (li (vals p (p + 1))), .ow ((Hn p).map .int), .ow ((Hn p).map .int ++ [.none]), .no, .no, .no, .no, .no, .no]) :=
        x_cmp (x_biV (xs_cons (x_callL h4 (xs_cons rfl xs_nil) xs_nil rfl rfl r4) xs_nil) rfl (repr_li rok1)) (x_biV (xs_cons rfl xs_nil) rfl (repr_li rok1)) rfl rfl (cmp_ne_str _)
      have s7 := fun (sa : Sms) => y_ifF (n := nF) (sa := sa) (sb := .nil) t7 y_nil
      -- 8: from exponent to exponent
      have s8 : ∃ l : Cell, exS Γ nF (.ite (.cmp .lt (.var 1) (.cst (.int (20)))) (.cons (.asg 5 (.call ph (.cons (.bin .add (.var 1) (.cst (.int (1)))) .nil) .nil [0]) false) (.cons (.ite (.cmp .ne (.var 5) (.bin .add (.lst (.cons (.cst (.int (0))) .nil)) (.comp (.bin .mul (.bin .add (.var 10) (.cst (.int (1)))) (.bin .add (.idx (.var 3) (.var 10)) (.ite (.cmp .lt (.bin .add (.var 10) (.cst (.int (1)))) (.bi .len (.cons (.var 3) .nil))) (.idx (.var 3) (.bin .add (.var 10) (.cst (.int (1))))) (.cst (.int (0)))))) (.nm 10) (.rng (.cons (.bin .add (.var 1) (.cst (.int (1)))) .nil)) .nil [10]))) (.cons (.ret (.cst (.bool false))) .nil) .nil) .nil)) .nil) [.io (potD a1 b1), .va (.int (p : Int)), .va (li (vals p (p + 1))), .ow ((Hn p).map .int), .ow ((Hn p).map .int ++ [.none]), .no, .no, .no, .no, .no, .no] = some (.nx [.io (potD a1 b1), .va (.int (p : Int)), .va (li (vals p (p + 1))), .ow ((Hn p).map .int), .ow ((Hn p).map .int ++ [.none]), l, .no, .no, .no, .no, .no]) := by
        by_cases hp20 : p < 20
        · refine ⟨.ow ((Hn (p + 1)).map .int), ?_⟩
          have r8 := run_headsP (p := p + 1) (by omega)
          have c8 := comp_range (Γ := Γ) (env := [.io (potD a1 b1), .va (.int (p : Int)), .va (li (vals p (p + 1))), .ow ((Hn p).map .int), .ow ((Hn p).map .int ++ [.none]), .ow ((Hn (p + 1)).map .int), .no, .no, .no, .no, .no]) (e1 := [.io (potD a1 b1), .va (.int (p : Int)), .va (li (vals p (p + 1))), .ow ((Hn p).map .int), .ow ((Hn p).map .int ++ [.none]), .ow ((Hn (p + 1)).map .int), .no, .no, .no, .no, .no]) (W := [.io (potD a1 b1), .va (.int (p : Int)), .va (li (vals p (p + 1))), .ow ((Hn p).map .int), .ow ((Hn p).map .int ++ [.none]), .ow ((Hn (p + 1)).map .int), .no, .no, .no, .no, .no]) (e3 := [.io (potD a1 b1), .va (.int (p : Int)), .va (li (vals p (p + 1))), .ow ((Hn p).map .int), .ow ((Hn p).map .int ++ [.none]), .ow ((Hn (p + 1)).map .int), .no, .no, .no, .no, .no]) (es := .cons (.bin .add (.var 1) (.cst (.int (1)))) .nil) (ds := [.int ((p + 1 : Nat) : Int)]) (el := .bin .mul (.bin .add (.var 10) (.cst (.int (1)))) (.bin .add (.idx (.var 3) (.var 10)) (.ite (.cmp .lt (.bin .add (.var 10) (.cst (.int (1)))) (.bi .len (.cons (.var 3) .nil))) (.idx (.var 3) (.bin .add (.var 10) (.cst (.int (1))))) (.cst (.int (0)))))) (i := 10) (n := p + 1) (fun (i : Nat) => .int (((i : Int) + 1) * (hh p i + (if i + 1 < p + 1 then hh p (i + 1) else 0)))) (xs_cons (x_binV rfl rfl rfl rfl rfl) xs_nil) rfl (ints1 (b := ((p + 1 : Nat) : Int)) (by omega)) (by omega) rfl rfl
            (fun i hi => by
              have hmem : ∀ j, j < p + 1 → hh p j ∈ Hn p := fun j hj => List.mem_map.mpr ⟨j, List.mem_range.mpr hj, rfl⟩
              have i1 : idxD (li (Hn p)) (.int (i : Int)) = some (.int (hh p i)) := idx_map (f := hh p) (n := p + 1) hi
              have n1 := Hn_small p hp _ (hmem i hi)
              have cmp8 : cmpD .lt (.int ((i : Int) + 1)) (.int ((Hn p).length : Int)) = some (decide (i + 1 < p + 1)) := by
                show some (decide ((i : Int) + 1 < ((Hn p).length : Int))) = _
                rw [Hn_len]
                exact congrArg some (decide_eq_decide.mpr (by omega))
              have tl : evE Γ (.ite (.cmp .lt (.bin .add (.var 10) (.cst (.int (1)))) (.bi .len (.cons (.var 3) .nil))) (.idx (.var 3) (.bin .add (.var 10) (.cst (.int (1))))) (.cst (.int (0)))) [.io (potD a1 b1), .va (.int (p : Int)), .va (li (vals p (p + 1))), .ow ((Hn p).map .int), .ow ((Hn p).map .int ++ [.none]), .ow ((Hn (p + 1)).map .int), .no, .no, .no, .no, .va (.int (i : Int))] = some (.va (.int (if i + 1 < p + 1 then hh p (i + 1) else 0)), [.io (potD a1 b1), .va (.int (p : Int)), .va (li (vals p (p + 1))), .ow ((Hn p).map .int), .ow ((Hn p).map .int ++ [.none]), .ow ((Hn (p + 1)).map .int), .no, .no, .no, .no, .va (.int (i : Int))]) := by
                refine x_ite (t := decide (i + 1 < p + 1)) (x_cmp (x_binV rfl rfl rfl rfl rfl) (x_biV (xs_cons rfl xs_nil) rfl (len_seq (seqI_li (Hn p)))) rfl rfl cmp8) ?_
                by_cases h : i + 1 < p + 1
                · rw [decide_eq_true h, if_pos rfl, if_pos h]
                  have i2 : idxD (li (Hn p)) (.int ((i : Int) + 1)) = some (.int (hh p (i + 1))) := idx_map (f := hh p) (n := p + 1) (i := i + 1) h
                  exact x_idx rfl (x_binV rfl rfl rfl rfl rfl) rfl rfl i2
                · rw [decide_eq_false h, if_neg (by decide), if_neg h]
                  rfl
              have m8 : mulOk ((i : Int) + 1) (hh p i + (if i + 1 < p + 1 then hh p (i + 1) else 0)) = true := by
                refine mulOk_of 64 102 (by omega) ?_ (by omega)
                by_cases h : i + 1 < p + 1
                · rw [if_pos h]
                  have n2 := Hn_small p hp _ (hmem (i + 1) h)
                  omega
                · rw [if_neg h]
                  omega
              exact ⟨_, _, _, x_mul (x_binV rfl rfl rfl rfl rfl) (x_binV (x_idx rfl rfl rfl rfl i1) tl rfl rfl rfl) rfl rfl m8, rfl, rfl⟩) rfl
          have e8 : (PyData.int 0 :: (List.range (p + 1)).map fun (i : Nat) => PyData.int (((i : Int) + 1) * (hh p i + (if i + 1 < p + 1 then hh p (i + 1) else 0)))) = (Hn (p + 1)).map .int := by
            rw [Hn_succ, List.map_cons, List.map_map]
            rfl
          have ba : binD .add (.list [.int 0]) (.list ((List.range (p + 1)).map fun (i : Nat) => PyData.int (((i : Int) + 1) * (hh p i + (if i + 1 < p + 1 then hh p (i + 1) else 0))))) = some (.ow ((Hn (p + 1)).map .int)) := by
            rw [← e8]
            exact if_pos (by rw [List.length_map, List.length_range]; show 1 + (p + 1) ≤ 16777216; omega)
          have cn : cmpD .ne (li (Hn (p + 1))) (li (Hn (p + 1))) = some false := by
            rw [cmp_ne_li, decide_eq_true rfl]
            rfl
          have s8a : exS Γ nF (.asg 5 (.call ph (.cons (.bin .add (.var 1) (.cst (.int (1)))) .nil) .nil [0]) false) [.io (potD a1 b1), .va (.int (p : Int)), .va (li (vals p (p + 1))), .ow ((Hn p).map .int), .ow ((Hn p).map .int ++ [.none]), .no, .no, .no, .no, .no, .no] = some (.nx [.io (potD a1 b1), .va (.int (p : Int)), .va (li (vals p (p + 1))), .ow ((Hn p).map .int), .ow ((Hn p).map .int ++ [.none]), .ow ((Hn (p + 1)).map .int), .no, .no, .no, .no, .no]) := y_asgO (x_callL h4 (xs_cons (x_binV rfl rfl rfl rfl rfl) xs_nil) xs_nil rfl rfl r8) rfl rfl
          exact y_ifT (x_cmp rfl rfl rfl rfl (congrArg some (decide_eq_true (by omega)))) (y_nx s8a (y_nx (y_ifF (x_cmp rfl (x_binO (x_lst (xs_cons rfl xs_nil) rfl (show (1 : Nat) ≤ 16777216 by decide)) c8 rfl rfl ba) rfl rfl cn) y_nil) y_nil))
        · exact ⟨.no, y_ifF (x_cmp rfl rfl rfl rfl (congrArg some (decide_eq_false (by omega)))) y_nil⟩
      obtain ⟨l, s8⟩ := s8
      -- 9: how great the heads are
      have c9 := comp_ex (Γ := Γ) (env := [.io (potD a1 b1), .va (.int (p : Int)), .va (li (vals p (p + 1))), .ow ((Hn p).map .int), .ow ((Hn p).map .int ++ [.none]), l, .no, .no, .no, .no, .no]) (e1 := [.io (potD a1 b1), .va (.int (p : Int)), .va (li (vals p (p + 1))), .ow ((Hn p).map .int), .ow ((Hn p).map .int ++ [.none]), l, .no, .no, .no, .no, .no]) (e2 := [.io (potD a1 b1), .va (.int (p : Int)), .va (li (vals p (p + 1))), .va (li (Hn p)), .ow ((Hn p).map .int ++ [.none]), l, .no, .no, .no, .no, .no]) (W := [.io (potD a1 b1), .va (.int (p : Int)), .va (li (vals p (p + 1))), .va (li (Hn p)), .ow ((Hn p).map .int ++ [.none]), l, .no, .no, .no, .no, .no]) (e3 := [.io (potD a1 b1), .va (.int (p : Int)), .va (li (vals p (p + 1))), .va (li (Hn p)), .ow ((Hn p).map .int ++ [.none]), l, .no, .no, .no, .no, .no]) (a := .var 3) (o := .sl 3) (d := li (Hn p)) (ds := (Hn p).map .int) (el := .cmp .le (.bi .abs (.cons (.var 8) .nil)) (.bin .pow (.cst (.int (10))) (.cst (.int (12))))) (i := 8) (fun d => match d with
        | .int v => .bool (decide ((if v < 0 then -v else v) ≤ 1000000000000))
        | _ => .none) rfl rfl rfl (by rw [List.length_map, Hn_len]; omega) rfl rfl (fun x hx => by
          obtain ⟨v, _, e⟩ := List.mem_map.mp hx
          subst e
          have hpw : binD .pow (.int 10) (.int 12) = some (.va (.int 1000000000000)) := by
            rw [binD, if_pos (by decide)]
            rfl
          exact ⟨_, _, _, x_cmp (t := decide ((if v < 0 then -v else v) ≤ 1000000000000)) (x_biV (xs_cons rfl xs_nil) rfl rfl) (x_binV rfl rfl rfl rfl hpw) rfl rfl rfl, rfl, rfl⟩) rfl
      rw [List.map_map] at c9
      have s9 : exS Γ nF (.asg 6 (.bi .all (.cons (.comp (.cmp .le (.bi .abs (.cons (.var 8) .nil)) (.bin .pow (.cst (.int (10))) (.cst (.int (12))))) (.nm 8) (.ex (.var 3)) .nil [8]) .nil)) false) [.io (potD a1 b1), .va (.int (p : Int)), .va (li (vals p (p + 1))), .ow ((Hn p).map .int), .ow ((Hn p).map .int ++ [.none]), l, .no, .no, .no, .no, .no] = some (.nx [.io (potD a1 b1), .va (.int (p : Int)), .va (li (vals p (p + 1))), .va (li (Hn p)), .ow ((Hn p).map .int ++ [.none]), l, .va (.bool ((Hn p).all fun v => decide ((if v < 0 then -v else v) ≤ 1000000000000))), .no, .no, .no, .no]) :=
        y_asgV (x_biV (xs_cons c9 xs_nil) rfl (allBools_map2 (fun v => decide ((if v < 0 then -v else v) ≤ 1000000000000)) (Hn p))) rfl rfl
      -- 10: a place
      have s10 : exS Γ nF (.asg 7 (.call dr (.cons (.var 0) (.cons (.cst (.int (40))) .nil)) .nil [0, 1]) false) [.io (potD a1 b1), .va (.int (p : Int)), .va (li (vals p (p + 1))), .va (li (Hn p)), .ow ((Hn p).map .int ++ [.none]), l, .va (.bool ((Hn p).all fun v => decide ((if v < 0 then -v else v) ≤ 1000000000000))), .no, .no, .no, .no] = some (.nx [.io (potD a2 b2), .va (.int (p : Int)), .va (li (vals p (p + 1))), .va (li (Hn p)), .ow ((Hn p).map .int ++ [.none]), l, .va (.bool ((Hn p).all fun v => decide ((if v < 0 then -v else v) ≤ 1000000000000))), .va (.int (c : Int)), .no, .no, .no]) :=
        y_asgV (x_callSI h1 (xs_cons rfl (xs_cons rfl xs_nil)) rfl rfl rfl d2 rfl) rfl rfl
      -- 11: by the heads
      have pc := run_power (n := (c : Int)) (p := p) (by omega) (by omega)
      have cc : cmpD .ne (.int ((c : Int) ^ p)) (.int ((c : Int) ^ p)) = some false := by
        show some (!decide ((c : Int) ^ p = (c : Int) ^ p)) = _
        rw [decide_eq_true rfl]
        rfl
      have t11 : evE Γ (.and_ (.var 6) (.cmp .ne (.call nb (.cons (.var 3) (.cons (.var 7) .nil)) .nil [0, 1]) (.call pw (.cons (.var 7) (.cons (.var 1) .nil)) .nil [0, 1]))) [.io (potD a2 b2), .va (.int (p : Int)), .va (li (vals p (p + 1))), .va (li (Hn p)), .ow ((Hn p).map .int ++ [.none]), l, .va (.bool ((Hn p).all fun v => decide ((if v < 0 then -v else v) ≤ 1000000000000))), .va (.int (c : Int)), .no, .no, .no] = some (.va (.bool false), [.io (potD a2 b2), .va (.int (p : Int)), .va (li (vals p (p + 1))), .va (li (Hn p)), .ow ((Hn p).map .int ++ [.none]), l, .va (.bool ((Hn p).all fun v => decide ((if v < 0 then -v else v) ≤ 1000000000000))), .va (.int (c : Int)), .no, .no, .no]) := by
        refine x_and (t := (Hn p).all fun v => decide ((if v < 0 then -v else v) ≤ 1000000000000)) rfl ?_
        by_cases hs : ((Hn p).all fun v => decide ((if v < 0 then -v else v) ≤ 1000000000000)) = true
        · rw [if_pos hs]
          have hsm : smallN (Hn p) := by
            refine ⟨by rw [Hn_len]; omega, fun x hx => ?_⟩
            have := of_decide_eq_true (List.all_eq_true.mp hs x hx)
            split at this <;> omega
          have r11 := run_numberBy (p := c) (seqI_li (Hn p)) (by omega) hsm
          rw [byHeads_Hn] at r11
          exact x_cmp (x_callV h5 (xs_cons rfl (xs_cons rfl xs_nil)) xs_nil rfl rfl r11) (x_callV h2 (xs_cons rfl (xs_cons rfl xs_nil)) xs_nil rfl rfl pc) rfl rfl cc
        · rw [if_neg hs]
      have s11 := fun (sa : Sms) => y_ifF (n := nF) (sa := sa) (sb := .nil) t11 y_nil
      -- 12: how many heads
      have t12 : evE Γ (.and_ (.cmp .lt (.var 1) (.cst (.int (7)))) (.cmp .ne (.call dg (.cons (.comp (.call pw (.cons (.var 8) (.cons (.var 1) .nil)) .nil [0, 1]) (.nm 8) (.rng (.cons (.cst (.int (8))) .nil)) .nil [8]) .nil) .nil [0]) (.var 1))) [.io (potD a2 b2), .va (.int (p : Int)), .va (li (vals p (p + 1))), .va (li (Hn p)), .ow ((Hn p).map .int ++ [.none]), l, .va (.bool ((Hn p).all fun v => decide ((if v < 0 then -v else v) ≤ 1000000000000))), .va (.int (c : Int)), .no, .no, .no] = some (.va (.bool false), [.io (potD a2 b2), .va (.int (p : Int)), .va (li (vals p (p + 1))), .va (li (Hn p)), .ow ((Hn p).map .int ++ [.none]), l, .va (.bool ((Hn p).all fun v => decide ((if v < 0 then -v else v) ≤ 1000000000000))), .va (.int (c : Int)), .no, .no, .no]) := by
        by_cases h : p < 7
        · refine x_andT (x_cmp rfl rfl rfl rfl (congrArg some (decide_eq_true (by omega)))) ?_
          have c12 := comp_range (Γ := Γ) (env := [.io (potD a2 b2), .va (.int (p : Int)), .va (li (vals p (p + 1))), .va (li (Hn p)), .ow ((Hn p).map .int ++ [.none]), l, .va (.bool ((Hn p).all fun v => decide ((if v < 0 then -v else v) ≤ 1000000000000))), .va (.int (c : Int)), .no, .no, .no]) (e1 := [.io (potD a2 b2), .va (.int (p : Int)), .va (li (vals p (p + 1))), .va (li (Hn p)), .ow ((Hn p).map .int ++ [.none]), l, .va (.bool ((Hn p).all fun v => decide ((if v < 0 then -v else v) ≤ 1000000000000))), .va (.int (c : Int)), .no, .no, .no]) (W := [.io (potD a2 b2), .va (.int (p : Int)), .va (li (vals p (p + 1))), .va (li (Hn p)), .ow ((Hn p).map .int ++ [.none]), l, .va (.bool ((Hn p).all fun v => decide ((if v < 0 then -v else v) ≤ 1000000000000))), .va (.int (c : Int)), .no, .no, .no]) (e3 := [.io (potD a2 b2), .va (.int (p : Int)), .va (li (vals p (p + 1))), .va (li (Hn p)), .ow ((Hn p).map .int ++ [.none]), l, .va (.bool ((Hn p).all fun v => decide ((if v < 0 then -v else v) ≤ 1000000000000))), .va (.int (c : Int)), .no, .no, .no]) (es := .cons (.cst (.int (8))) .nil) (ds := [.int ((8 : Nat) : Int)]) (el := .call pw (.cons (.var 8) (.cons (.var 1) .nil)) .nil [0, 1]) (i := 8) (n := 8) (fun (k : Nat) => .int ((k : Int) ^ p)) (xs_cons rfl xs_nil) rfl (ints1 (b := ((8 : Nat) : Int)) (by omega)) (by omega) rfl rfl
            (fun k hk => ⟨_, _, _, x_callV h2 (xs_cons rfl (xs_cons rfl xs_nil)) xs_nil rfl rfl (p1 k (by omega)), rfl, rfl⟩) rfl
          have e12 : (List.range 8).map (fun (k : Nat) => PyData.int ((k : Int) ^ p)) = (vals p 8).map .int := by
            unfold vals
            rw [List.map_map]
            rfl
          rw [e12] at c12
          have r12 := run_degree (seqI_li (vals p 8)) (vals7 p h)
          rw [degree_finite p h] at r12
          have cd : cmpD .ne (.int (((p + 1 : Nat) : Int) - 1)) (.int (p : Int)) = some false := by
            show some (!decide (((p + 1 : Nat) : Int) - 1 = (p : Int))) = _
            rw [decide_eq_true (by omega)]
            rfl
          exact x_cmp (x_callV h6 (xs_cons c12 xs_nil) xs_nil rfl rfl r12) rfl rfl rfl cd
        · exact x_andF (x_cmp rfl rfl rfl rfl (congrArg some (decide_eq_false (by omega))))
      have s12 := fun (sa : Sms) => y_ifF (n := nF) (sa := sa) (sb := .nil) t12 y_nil
      -- 13: by choices told
      have c13 := comp_enum (Γ := Γ) (env := [.io (potD a2 b2), .va (.int (p : Int)), .va (li (vals p (p + 1))), .va (li (Hn p)), .ow ((Hn p).map .int ++ [.none]), l, .va (.bool ((Hn p).all fun v => decide ((if v < 0 then -v else v) ≤ 1000000000000))), .va (.int (c : Int)), .no, .no, .no]) (e1 := [.io (potD a2 b2), .va (.int (p : Int)), .va (li (vals p (p + 1))), .va (li (Hn p)), .ow ((Hn p).map .int ++ [.none]), l, .va (.bool ((Hn p).all fun v => decide ((if v < 0 then -v else v) ≤ 1000000000000))), .va (.int (c : Int)), .no, .no, .no]) (e2 := [.io (potD a2 b2), .va (.int (p : Int)), .va (li (vals p (p + 1))), .va (li (Hn p)), .ow ((Hn p).map .int ++ [.none]), l, .va (.bool ((Hn p).all fun v => decide ((if v < 0 then -v else v) ≤ 1000000000000))), .va (.int (c : Int)), .no, .no, .no]) (e3 := [.io (potD a2 b2), .va (.int (p : Int)), .va (li (vals p (p + 1))), .va (li (Hn p)), .ow ((Hn p).map .int ++ [.none]), l, .va (.bool ((Hn p).all fun v => decide ((if v < 0 then -v else v) ≤ 1000000000000))), .va (.int (c : Int)), .no, .no, .no]) (W := [.io (potD a2 b2), .va (.int (p : Int)), .va (li (vals p (p + 1))), .va (li (Hn p)), .ow ((Hn p).map .int ++ [.none]), l, .va (.bool ((Hn p).all fun v => decide ((if v < 0 then -v else v) ≤ 1000000000000))), .va (.int (c : Int)), .no, .no, .no]) (a := .var 3) (el := .bin .mul (.var 8) (.call cw (.cons (.var 7) (.cons (.var 10) .nil)) .nil [0, 1])) (o := .va (li (Hn p))) (d := li (Hn p)) (i := 10) (j := 8) (xs := Hn p) (fun k v => v * (ch c k : Int)) rfl rfl rfl (by rw [Hn_len]; omega) rfl rfl (fun k v hv => by
        have hk : k < p + 1 := by
          have := (List.getElem?_eq_some_iff.mp hv).1
          rw [Hn_len] at this
          exact this
        have hbv : big v := Hn_big hp v (List.mem_of_getElem? hv)
        have r := run_chooseW (n := c) (k := k) (by omega) (by omega)
        have m := mulOk_ch (n := c) (k := k) (by omega) (by omega) hbv
        rw [mulOk_comm] at m
        exact x_mul rfl (x_callV h7 (xs_cons rfl (xs_cons rfl xs_nil)) xs_nil rfl rfl r) rfl rfl m) rfl (fun k v => rfl) rfl
      have e13 : (mi (fun k v => v * (ch c k : Int)) 0 (Hn p)).sum = (c : Int) ^ p := by
        unfold Hn
        rw [mi_sum, ← newton c p]
        exact sZ_congr fun j _ => Int.mul_comm _ _
      have hsum := sum_li (mi (fun k v => v * (ch c k : Int)) 0 (Hn p))
      rw [e13] at hsum
      have ce : cmpD .eq (.int ((c : Int) ^ p)) (.int ((c : Int) ^ p)) = some true := by
        show some (decide ((c : Int) ^ p = (c : Int) ^ p)) = _
        rw [decide_eq_true rfl]
      have s13 : exS Γ nF (.ret (.cmp .eq (.bi .sum (.cons (.comp (.bin .mul (.var 8) (.call cw (.cons (.var 7) (.cons (.var 10) .nil)) .nil [0, 1])) (.tp (.cons (.nm 10) (.cons (.nm 8) .nil))) (.enum (.var 3)) .nil [10, 8]) .nil)) (.call pw (.cons (.var 7) (.cons (.var 1) .nil)) .nil [0, 1]))) [.io (potD a2 b2), .va (.int (p : Int)), .va (li (vals p (p + 1))), .va (li (Hn p)), .ow ((Hn p).map .int ++ [.none]), l, .va (.bool ((Hn p).all fun v => decide ((if v < 0 then -v else v) ≤ 1000000000000))), .va (.int (c : Int)), .no, .no, .no] = some (.rt (.va (.bool true)) [.io (potD a2 b2), .va (.int (p : Int)), .va (li (vals p (p + 1))), .va (li (Hn p)), .ow ((Hn p).map .int ++ [.none]), l, .va (.bool ((Hn p).all fun v => decide ((if v < 0 then -v else v) ≤ 1000000000000))), .va (.int (c : Int)), .no, .no, .no]) :=
        y_retV (x_cmp (x_biV (xs_cons c13 xs_nil) rfl hsum) (x_callV h2 (xs_cons rfl (xs_cons rfl xs_nil)) xs_nil rfl rfl pc) rfl rfl ce)
      exact y_run (y_nx s1 (y_nx s2 (y_nx s3 (y_nx s4 (y_nx (s5 _) (y_nx s6 (y_nx (s7 _) (y_nx s8 (y_nx s9 (y_nx s10 (y_nx (s11 _) (y_nx (s12 _) (y_rt s13))))))))))))) rfl
    · cases h
  · cases h
end
end Pd

/-! k97: sums right; the pot; the law -/
namespace Pd
open PySem PySem.Spec PyProof.Rows L2
section
variable {Γ : Tab}
theorem ps_bits (p : Nat) : ∀ n : Nat, n < 2 ^ 63 → (ps p n).natAbs ≤ n * 2 ^ (64 * p + 1)
  | 0, _ => by
    show (0 : Int).natAbs ≤ _
    simp
  | n + 1, h => by
    have ih := ps_bits p n (by omega)
    have h1 := pow_bits (n := (n : Int)) (by omega) p
    rw [ps_succ, Nat.add_mul, Nat.one_mul]
    have := Int.natAbs_add_le (ps p n) ((n : Int) ^ p)
    omega
theorem ps_sh {p n : Nat} (hp : p < 21) (hn : n < 2 ^ 20) : (ps p n).natAbs < 2 ^ 1400 := by
  have h1 := ps_bits p n (by omega)
  have h2 : (2 : Nat) ^ (64 * p + 1) ≤ 2 ^ 1281 := Nat.pow_le_pow_right (by omega) (by omega)
  have h3 : n * 2 ^ (64 * p + 1) ≤ 2 ^ 20 * 2 ^ 1281 := Nat.mul_le_mul (by omega) h2
  rw [← Nat.pow_add] at h3
  have h4 : (2 : Nat) ^ 1301 < 2 ^ 1400 := Nat.pow_lt_pow_right (by omega) (by omega)
  omega
theorem reprOk_two {x : Int} (h : x.natAbs < 2 ^ 1400) : reprOk (.list [.int x, .int x]) = true := by
  have h2 := log2_le h
  have hs : (PyData.int x).showable = true := by
    rw [PyData.showable]
    exact decide_eq_true (by omega)
  refine (shw_list (ds := [.int x, .int x]) (m := 1403) fun d hd => ?_).ok (by show (1403 + 2) * 2 + 3 ≤ 16777216; omega)
  have ed : d = .int x := by
    rcases List.mem_cons.mp hd with z | z
    · exact z
    · exact List.mem_singleton.mp z
  subst ed
  exact ⟨rfl, hs, by rw [PyData.depth]; omega, by rw [wsz]; omega⟩
def irSumsRight (dr pw sp dh : Nat) : Sms := (.cons (.par [1, 2] (.cons (.call dr (.cons (.var 0) (.cons (.cst (.int (21))) .nil)) .nil [0, 1]) (.cons (.call dr (.cons (.var 0) (.cons (.cst (.int (300))) .nil)) .nil [0, 1]) .nil))) (.cons (.asg 3 (.bi .sum (.cons (.comp (.call pw (.cons (.var 7) (.cons (.var 1) .nil)) .nil [0, 1]) (.nm 7) (.rng (.cons (.var 2) .nil)) .nil [7]) .nil)) false) (.cons (.ite (.cmp .ne (.reprL (.cons (.call sp (.cons (.var 1) (.cons (.var 2) .nil)) .nil [0, 1]) (.cons (.call sp .nil (.cons (.var 2) (.cons (.var 1) .nil)) [1, 0]) .nil))) (.reprL (.cons (.var 3) (.cons (.var 3) .nil)))) (.cons (.ret (.cst (.bool false))) .nil) .nil) (.cons (.asg 4 (.call dr (.cons (.var 0) (.cons (.bin .pow (.cst (.int (10))) (.cst (.int (6)))) .nil)) .nil [0, 1]) false) (.cons (.ite (.cmp .ne (.bin .sub (.call sp (.cons (.var 1) (.cons (.bin .add (.var 4) (.cst (.int (1)))) .nil)) .nil [0, 1]) (.call sp (.cons (.var 1) (.cons (.var 4) .nil)) .nil [0, 1])) (.call pw (.cons (.var 4) (.cons (.var 1) .nil)) .nil [0, 1])) (.cons (.ret (.cst (.bool false))) .nil) .nil) (.cons (.asg 5 (.bi .max (.cons (.cst (.int (0))) (.cons (.bin .sub (.var 4) (.cst (.int (1)))) .nil))) false) (.cons (.asg 6 (.bin .fdiv (.bin .mul (.var 4) (.var 5)) (.cst (.int (2)))) false) (.cons (.ite (.cmp .ne (.lst (.cons (.call sp (.cons (.cst (.int (0))) (.cons (.var 4) .nil)) .nil [0, 1]) (.cons (.call sp (.cons (.cst (.int (1))) (.cons (.var 4) .nil)) .nil [0, 1]) (.cons (.bin .mul (.cst (.int (6))) (.call sp (.cons (.cst (.int (2))) (.cons (.var 4) .nil)) .nil [0, 1])) (.cons (.call sp (.cons (.cst (.int (3))) (.cons (.var 4) .nil)) .nil [0, 1]) .nil))))) (.lst (.cons (.var 4) (.cons (.var 6) (.cons (.bin .mul (.bin .mul (.cst (.int (2))) (.var 6)) (.bin .sub (.bin .mul (.cst (.int (2))) (.var 4)) (.cst (.int (1))))) (.cons (.bin .mul (.var 6) (.var 6)) .nil)))))) (.cons (.ret (.cst (.bool false))) .nil) .nil) (.cons (.ret (.and_ (.cmp .eq (.call sp (.cons (.var 1) (.cons (.cst (.int (0))) .nil)) .nil [0, 1]) (.cst (.int (0)))) (.cmp .eq (.call dh (.cons (.comp (.call sp (.cons (.cst (.int (2))) (.cons (.var 7) .nil)) .nil [0, 1]) (.nm 7) (.rng (.cons (.cst (.int (6))) .nil)) .nil [7]) .nil) .nil [0]) (.lst (.cons (.cst (.int (0))) (.cons (.cst (.int (0))) (.cons (.cst (.int (1))) (.cons (.cst (.int (2))) (.cons (.cst (.int (0))) (.cons (.cst (.int (0))) .nil)))))))))) .nil)))))))))
def fSumsRight (q : Int) : Run
  | [.list [.int a, .int b]] => if bOk b then
      let D1 := draw q (a, b) 21
      let D2 := draw q D1.2 300
      let D3 := draw q D2.2 1000000
      some (.va (.bool true), potD D3.2.1 D3.2.2) else none
  | _ => none
theorem backs6 : backs [0, 0, 1, 5, 14, 30] = [0, 0, 1, 2, 0, 0] := by decide +kernel
set_option maxHeartbeats 2000000 in
theorem does_sumsRight {q : Int} {dr pw sp dh : Nat} (h1 : Γ dr = some ⟨true, fDraw q⟩) (h2 : Γ pw = some ⟨false, fPower⟩) (h3 : Γ sp = some ⟨false, fSumPow⟩) (h4 : Γ dh = some ⟨false, fDiffHeads⟩) : Does (fSumsRight q) Γ true 8 (irSumsRight dr pw sp dh) := by
  intro ds z h
  unfold fSumsRight at h
  split at h
  · rename_i a b
    split at h
    · rename_i hb
      dsimp only at h
      cases h
      have d1 := run_draw (q := q) (a := a) (b := b) (m := 21) hb (by omega) (by omega)
      have l1 := draw_lt (q := q) (p := (a, b)) (m := 21) (by omega)
      have hb1 := bOk_draw (q := q) (p := (a, b)) (m := 21) hb
      generalize hD1 : draw q (a, b) 21 = D1 at *
      obtain ⟨v1, a1, b1⟩ := D1
      have hb1 : bOk b1 := hb1
      obtain ⟨p, ep, hp⟩ := nat_of (v := v1) l1
      subst ep
      have hp : p < 21 := by omega
      have d2 := run_draw (q := q) (a := a1) (b := b1) (m := 300) hb1 (by omega) (by omega)
      have l2 := draw_lt (q := q) (p := (a1, b1)) (m := 300) (by omega)
      have hb2 := bOk_draw (q := q) (p := (a1, b1)) (m := 300) hb1
      show runD Γ nF true 8 _ _ = some (Rv.va (.bool true), potD (draw q (draw q (a1, b1) 300).2 1000000).2.1 (draw q (draw q (a1, b1) 300).2 1000000).2.2)
      generalize hD2 : draw q (a1, b1) 300 = D2 at *
      obtain ⟨v2, a2, b2⟩ := D2
      have hb2 : bOk b2 := hb2
      obtain ⟨m, em, hm⟩ := nat_of (v := v2) l2
      subst em
      have hm : m < 300 := by omega
      have d3 := run_draw (q := q) (a := a2) (b := b2) (m := 1000000) hb2 (by omega) (by omega)
      have l3 := draw_lt (q := q) (p := (a2, b2)) (m := 1000000) (by omega)
      show runD Γ nF true 8 _ _ = some (Rv.va (.bool true), potD (draw q (a2, b2) 1000000).2.1 (draw q (a2, b2) 1000000).2.2)
      generalize hD3 : draw q (a2, b2) 1000000 = D3 at *
      obtain ⟨v3, a3, b3⟩ := D3
      obtain ⟨f, ef, hf⟩ := nat_of (v := v3) l3
      subst ef
      have hf : f < 1000000 := by omega
      have d1 : fDraw q [.list (potD a b), .int 21] = some (.va (.int (p : Int)), potD a1 b1) := d1
      have d2 : fDraw q [.list (potD a1 b1), .int 300] = some (.va (.int (m : Int)), potD a2 b2) := d2
      have d3 : fDraw q [.list (potD a2 b2), .int 1000000] = some (.va (.int (f : Int)), potD a3 b3) := d3
      have s1 : exS Γ nF (.par [1, 2] (.cons (.call dr (.cons (.var 0) (.cons (.cst (.int (21))) .nil)) .nil [0, 1]) (.cons (.call dr (.cons (.var 0) (.cons (.cst (.int (300))) .nil)) .nil [0, 1]) .nil))) [.io (potD a b), .no, .no, .no, .no, .no, .no, .no] = some (.nx [.io (potD a2 b2), .va (.int (p : Int)), .va (.int (m : Int)), .no, .no, .no, .no, .no]) :=
        y_par (xs_cons (x_callSI h1 (xs_cons rfl (xs_cons rfl xs_nil)) rfl rfl rfl d1 rfl) (xs_cons (x_callSI h1 (xs_cons rfl (xs_cons rfl xs_nil)) rfl rfl rfl d2 rfl) xs_nil)) rfl rfl
      have p1 : ∀ k : Nat, k < 1000000 → fPower [.int (k : Int), .int (p : Int)] = some (.va (.int ((k : Int) ^ p)), []) := fun k hk => run_power (n := (k : Int)) (by omega) (by omega)
      have c2 := comp_range (Γ := Γ) (env := [.io (potD a2 b2), .va (.int (p : Int)), .va (.int (m : Int)), .no, .no, .no, .no, .no]) (e1 := [.io (potD a2 b2), .va (.int (p : Int)), .va (.int (m : Int)), .no, .no, .no, .no, .no]) (W := [.io (potD a2 b2), .va (.int (p : Int)), .va (.int (m : Int)), .no, .no, .no, .no, .no]) (e3 := [.io (potD a2 b2), .va (.int (p : Int)), .va (.int (m : Int)), .no, .no, .no, .no, .no]) (es := .cons (.var 2) .nil) (ds := [.int (m : Int)]) (el := .call pw (.cons (.var 7) (.cons (.var 1) .nil)) .nil [0, 1]) (i := 7) (n := m) (fun (k : Nat) => .int ((k : Int) ^ p)) (xs_cons rfl xs_nil) rfl (ints1 (b := (m : Int)) (by omega)) (by omega) rfl rfl
        (fun k hk => ⟨_, _, _, x_callV h2 (xs_cons rfl (xs_cons rfl xs_nil)) xs_nil rfl rfl (p1 k (by omega)), rfl, rfl⟩) rfl
      have e2 : (List.range m).map (fun (k : Nat) => PyData.int ((k : Int) ^ p)) = (vals p m).map .int := by
        unfold vals
        rw [List.map_map]
        rfl
      rw [e2] at c2
      have hsum := sum_li (vals p m)
      rw [sum_vals] at hsum
      have s2 : exS Γ nF (.asg 3 (.bi .sum (.cons (.comp (.call pw (.cons (.var 7) (.cons (.var 1) .nil)) .nil [0, 1]) (.nm 7) (.rng (.cons (.var 2) .nil)) .nil [7]) .nil)) false) [.io (potD a2 b2), .va (.int (p : Int)), .va (.int (m : Int)), .no, .no, .no, .no, .no] = some (.nx [.io (potD a2 b2), .va (.int (p : Int)), .va (.int (m : Int)), .va (.int (ps p m)), .no, .no, .no, .no]) := y_asgV (x_biV (xs_cons c2 xs_nil) rfl hsum) rfl rfl
      have r : ∀ p n : Nat, p ≤ 20 → n ≤ 1000000 → fSumPow [.int (p : Int), .int (n : Int)] = some (.va (.int (ps p n)), []) := fun p n => run_sumPow
      have rok := reprOk_two (ps_sh (p := p) (n := m) hp (by omega))
      have t3 : evE Γ (.cmp .ne (.reprL (.cons (.call sp (.cons (.var 1) (.cons (.var 2) .nil)) .nil [0, 1]) (.cons (.call sp .nil (.cons (.var 2) (.cons (.var 1) .nil)) [1, 0]) .nil))) (.reprL (.cons (.var 3) (.cons (.var 3) .nil)))) [.io (potD a2 b2), .va (.int (p : Int)), .va (.int (m : Int)), .va (.int (ps p m)), .no, .no, .no, .no] = some (.va (.bool false), [.io (potD a2 b2), .va (.int (p : Int)), .va (.int (m : Int)), .va (.int (ps p m)), .no, .no, .no, .no]) :=
        x_cmp (x_reprL (ds := [.int (ps p m), .int (ps p m)]) (xs_cons (x_callV h3 (xs_cons rfl (xs_cons rfl xs_nil)) xs_nil rfl rfl (r p m (by omega) (by omega))) (xs_cons (x_callV h3 xs_nil (xs_cons rfl (xs_cons rfl xs_nil)) rfl rfl (r p m (by omega) (by omega))) xs_nil)) rfl rok) (x_reprL (ds := [.int (ps p m), .int (ps p m)]) (xs_cons rfl (xs_cons rfl xs_nil)) rfl rok) rfl rfl (cmp_ne_str _)
      have s3 := fun (sa : Sms) => y_ifF (n := nF) (sa := sa) (sb := .nil) t3 y_nil
      have hpw : binD .pow (.int 10) (.int 6) = some (.va (.int 1000000)) := by
        rw [binD, if_pos (by decide)]
        rfl
      have s4 : exS Γ nF (.asg 4 (.call dr (.cons (.var 0) (.cons (.bin .pow (.cst (.int (10))) (.cst (.int (6)))) .nil)) .nil [0, 1]) false) [.io (potD a2 b2), .va (.int (p : Int)), .va (.int (m : Int)), .va (.int (ps p m)), .no, .no, .no, .no] = some (.nx [.io (potD a3 b3), .va (.int (p : Int)), .va (.int (m : Int)), .va (.int (ps p m)), .va (.int (f : Int)), .no, .no, .no]) :=
        y_asgV (x_callSI h1 (xs_cons rfl (xs_cons (x_binV rfl rfl rfl rfl hpw) xs_nil)) rfl rfl rfl d3 rfl) rfl rfl
      have c5 : cmpD .ne (.int (ps p (f + 1) - ps p f)) (.int ((f : Int) ^ p)) = some false := by
        show some (!decide (ps p (f + 1) - ps p f = (f : Int) ^ p)) = _
        rw [decide_eq_true (by rw [ps_succ]; omega)]
        rfl
      have t5 : evE Γ (.cmp .ne (.bin .sub (.call sp (.cons (.var 1) (.cons (.bin .add (.var 4) (.cst (.int (1)))) .nil)) .nil [0, 1]) (.call sp (.cons (.var 1) (.cons (.var 4) .nil)) .nil [0, 1])) (.call pw (.cons (.var 4) (.cons (.var 1) .nil)) .nil [0, 1])) [.io (potD a3 b3), .va (.int (p : Int)), .va (.int (m : Int)), .va (.int (ps p m)), .va (.int (f : Int)), .no, .no, .no] = some (.va (.bool false), [.io (potD a3 b3), .va (.int (p : Int)), .va (.int (m : Int)), .va (.int (ps p m)), .va (.int (f : Int)), .no, .no, .no]) :=
        x_cmp (x_binV (x_callV h3 (xs_cons rfl (xs_cons (x_binV (d := .int ((f + 1 : Nat) : Int)) rfl rfl rfl rfl rfl) xs_nil)) xs_nil rfl rfl (r p (f + 1) (by omega) (by omega))) (x_callV h3 (xs_cons rfl (xs_cons rfl xs_nil)) xs_nil rfl rfl (r p f (by omega) (by omega))) rfl rfl rfl) (x_callV h2 (xs_cons rfl (xs_cons rfl xs_nil)) xs_nil rfl rfl (p1 f hf)) rfl rfl c5
      have s5 := fun (sa : Sms) => y_ifF (n := nF) (sa := sa) (sb := .nil) t5 y_nil
      -- known ones
      obtain ⟨la, ela⟩ : ∃ la : Int, la = if (0 : Int) < (f : Int) - 1 then (f : Int) - 1 else 0 := ⟨_, rfl⟩
      have bm : biD .max [.int 0, .int ((f : Int) - 1)] = some (.va (.int la)) := by
        rw [ela]
        rfl
      have hla : (f : Int) * la = 2 * ps 1 f ∧ 0 ≤ la ∧ la < 1000000 := by
        rw [ps1]
        by_cases h : (0 : Int) < (f : Int) - 1
        · rw [if_pos h] at ela
          rw [ela]
          exact ⟨rfl, by omega, by omega⟩
        · rw [if_neg h] at ela
          rw [ela]
          have : f = 0 ∨ f = 1 := by omega
          rcases this with e | e <;> (subst e; exact ⟨rfl, by omega, by omega⟩)
      have hhalf : (f : Int) * la / 2 = ps 1 f := by
        rw [hla.1]
        omega
      have s6 : exS Γ nF (.asg 5 (.bi .max (.cons (.cst (.int (0))) (.cons (.bin .sub (.var 4) (.cst (.int (1)))) .nil))) false) [.io (potD a3 b3), .va (.int (p : Int)), .va (.int (m : Int)), .va (.int (ps p m)), .va (.int (f : Int)), .no, .no, .no] = some (.nx [.io (potD a3 b3), .va (.int (p : Int)), .va (.int (m : Int)), .va (.int (ps p m)), .va (.int (f : Int)), .va (.int la), .no, .no]) := y_asgV (x_biV (xs_cons rfl (xs_cons (x_binV rfl rfl rfl rfl rfl) xs_nil)) rfl bm) rfl rfl
      have m7 : mulOk (f : Int) la = true := mulOk_of 20 20 (by omega) (by omega) (by omega)
      have s7 : exS Γ nF (.asg 6 (.bin .fdiv (.bin .mul (.var 4) (.var 5)) (.cst (.int (2)))) false) [.io (potD a3 b3), .va (.int (p : Int)), .va (.int (m : Int)), .va (.int (ps p m)), .va (.int (f : Int)), .va (.int la), .no, .no] = some (.nx [.io (potD a3 b3), .va (.int (p : Int)), .va (.int (m : Int)), .va (.int (ps p m)), .va (.int (f : Int)), .va (.int la), .va (.int (ps 1 f)), .no]) := by
        have z := x_fdiv (Γ := Γ) (env := [.io (potD a3 b3), .va (.int (p : Int)), .va (.int (m : Int)), .va (.int (ps p m)), .va (.int (f : Int)), .va (.int la), .no, .no]) (a := .bin .mul (.var 4) (.var 5)) (b := .cst (.int 2)) (x_mul rfl rfl rfl rfl m7) rfl rfl rfl (by decide)
        rw [hhalf] at z
        exact y_asgV z rfl rfl
      have b1' := ps_sh (p := 1) (n := f) (by omega) (by omega)
      have b2' := ps_sh (p := 2) (n := f) (by omega) (by omega)
      have k2 := ps2 f
      have k3 := ps3 f
      have k1 := ps1 f
      have e62 : 6 * ps 2 f = 2 * ps 1 f * (2 * (f : Int) - 1) := by
        rw [k2, k1]
      have e3 : ps 3 f = ps 1 f * ps 1 f := by
        rw [← k1] at k3
        have : 2 * ps 1 f * (2 * ps 1 f) = 4 * (ps 1 f * ps 1 f) := by
          generalize ps 1 f = s
          grind
        rw [this] at k3
        omega
      have c8 : cmpD .ne (li [ps 0 f, ps 1 f, 6 * ps 2 f, ps 3 f]) (li [(f : Int), ps 1 f, 2 * ps 1 f * (2 * (f : Int) - 1), ps 1 f * ps 1 f]) = some false := by
        rw [cmp_ne_li, ps0, e62, e3, decide_eq_true rfl]
        rfl
      have m8 : mulOk 6 (ps 2 f) = true := mulOk_of 3 1400 (by decide) b2' (by omega)
      have m9 : mulOk 2 (ps 1 f) = true := mulOk_of 2 1400 (by decide) b1' (by omega)
      have m10 : mulOk 2 (f : Int) = true := mulOk_of 2 20 (by decide) (by omega) (by omega)
      have m11 : mulOk (2 * ps 1 f) (2 * (f : Int) - 1) = true := by
        refine mulOk_of 1402 22 ?_ (by omega) (by omega)
        rw [Int.natAbs_mul]
        show 2 * (ps 1 f).natAbs < _
        omega
      have m12 : mulOk (ps 1 f) (ps 1 f) = true := mulOk_of 1400 1400 b1' b1' (by omega)
      have t8 : evE Γ (.cmp .ne (.lst (.cons (.call sp (.cons (.cst (.int (0))) (.cons (.var 4) .nil)) .nil [0, 1]) (.cons (.call sp (.cons (.cst (.int (1))) (.cons (.var 4) .nil)) .nil [0, 1]) (.cons (.bin .mul (.cst (.int (6))) (.call sp (.cons (.cst (.int (2))) (.cons (.var 4) .nil)) .nil [0, 1])) (.cons (.call sp (.cons (.cst (.int (3))) (.cons (.var 4) .nil)) .nil [0, 1]) .nil))))) (.lst (.cons (.var 4) (.cons (.var 6) (.cons (.bin .mul (.bin .mul (.cst (.int (2))) (.var 6)) (.bin .sub (.bin .mul (.cst (.int (2))) (.var 4)) (.cst (.int (1))))) (.cons (.bin .mul (.var 6) (.var 6)) .nil)))))) [.io (potD a3 b3), .va (.int (p : Int)), .va (.int (m : Int)), .va (.int (ps p m)), .va (.int (f : Int)), .va (.int la), .va (.int (ps 1 f)), .no] = some (.va (.bool false), [.io (potD a3 b3), .va (.int (p : Int)), .va (.int (m : Int)), .va (.int (ps p m)), .va (.int (f : Int)), .va (.int la), .va (.int (ps 1 f)), .no]) :=
        x_cmp (x_lst (ds := [.int (ps 0 f), .int (ps 1 f), .int (6 * ps 2 f), .int (ps 3 f)]) (xs_cons (x_callV h3 (xs_cons rfl (xs_cons rfl xs_nil)) xs_nil rfl rfl (r 0 f (by omega) (by omega))) (xs_cons (x_callV h3 (xs_cons rfl (xs_cons rfl xs_nil)) xs_nil rfl rfl (r 1 f (by omega) (by omega))) (xs_cons (x_mul rfl (x_callV h3 (xs_cons rfl (xs_cons rfl xs_nil)) xs_nil rfl rfl (r 2 f (by omega) (by omega))) rfl rfl m8) (xs_cons (x_callV h3 (xs_cons rfl (xs_cons rfl xs_nil)) xs_nil rfl rfl (r 3 f (by omega) (by omega))) xs_nil)))) rfl (show (4 : Nat) ≤ 16777216 by decide))
          (x_lst (ds := [.int (f : Int), .int (ps 1 f), .int (2 * ps 1 f * (2 * (f : Int) - 1)), .int (ps 1 f * ps 1 f)]) (xs_cons rfl (xs_cons rfl (xs_cons (x_mul (x_mul rfl rfl rfl rfl m9) (x_binV (x_mul rfl rfl rfl rfl m10) rfl rfl rfl rfl) rfl rfl m11) (xs_cons (x_mul rfl rfl rfl rfl m12) xs_nil)))) rfl (show (4 : Nat) ≤ 16777216 by decide)) rfl rfl c8
      have s8 := fun (sa : Sms) => y_ifF (n := nF) (sa := sa) (sb := .nil) t8 y_nil
      -- nothing summed; heads of sums
      have c9 := comp_range (Γ := Γ) (env := [.io (potD a3 b3), .va (.int (p : Int)), .va (.int (m : Int)), .va (.int (ps p m)), .va (.int (f : Int)), .va (.int la), .va (.int (ps 1 f)), .no]) (e1 := [.io (potD a3 b3), .va (.int (p : Int)), .va (.int (m : Int)), .va (.int (ps p m)), .va (.int (f : Int)), .va (.int la), .va (.int (ps 1 f)), .no]) (W := [.io (potD a3 b3), .va (.int (p : Int)), .va (.int (m : Int)), .va (.int (ps p m)), .va (.int (f : Int)), .va (.int la), .va (.int (ps 1 f)), .no]) (e3 := [.io (potD a3 b3), .va (.int (p : Int)), .va (.int (m : Int)), .va (.int (ps p m)), .va (.int (f : Int)), .va (.int la), .va (.int (ps 1 f)), .no]) (es := .cons (.cst (.int (6))) .nil) (ds := [.int ((6 : Nat) : Int)]) (el := .call sp (.cons (.cst (.int (2))) (.cons (.var 7) .nil)) .nil [0, 1]) (i := 7) (n := 6) (fun (k : Nat) => .int (ps 2 k)) (xs_cons rfl xs_nil) rfl (ints1 (b := ((6 : Nat) : Int)) (by omega)) (by omega) rfl rfl
        (fun k hk => ⟨_, _, _, x_callV h3 (xs_cons rfl (xs_cons rfl xs_nil)) xs_nil rfl rfl (r 2 k (by omega) (by omega)), rfl, rfl⟩) rfl
      have e9 : (List.range 6).map (fun (k : Nat) => PyData.int (ps 2 k)) = ([0, 0, 1, 5, 14, 30] : List Int).map .int := rfl
      rw [e9] at c9
      have r9 := run_diffHeads (seqI_li [0, 0, 1, 5, 14, 30]) (by decide)
      rw [backs6] at r9
      have ce : cmpD .eq (li [0, 0, 1, 2, 0, 0]) (li [0, 0, 1, 2, 0, 0]) = some true := by
        rw [cmp_eq_li, decide_eq_true rfl]
      have s9 : exS Γ nF (.ret (.and_ (.cmp .eq (.call sp (.cons (.var 1) (.cons (.cst (.int (0))) .nil)) .nil [0, 1]) (.cst (.int (0)))) (.cmp .eq (.call dh (.cons (.comp (.call sp (.cons (.cst (.int (2))) (.cons (.var 7) .nil)) .nil [0, 1]) (.nm 7) (.rng (.cons (.cst (.int (6))) .nil)) .nil [7]) .nil) .nil [0]) (.lst (.cons (.cst (.int (0))) (.cons (.cst (.int (0))) (.cons (.cst (.int (1))) (.cons (.cst (.int (2))) (.cons (.cst (.int (0))) (.cons (.cst (.int (0))) .nil)))))))))) [.io (potD a3 b3), .va (.int (p : Int)), .va (.int (m : Int)), .va (.int (ps p m)), .va (.int (f : Int)), .va (.int la), .va (.int (ps 1 f)), .no] = some (.rt (.va (.bool true)) [.io (potD a3 b3), .va (.int (p : Int)), .va (.int (m : Int)), .va (.int (ps p m)), .va (.int (f : Int)), .va (.int la), .va (.int (ps 1 f)), .no]) :=
        y_retV (x_andT (x_cmp (x_callV h3 (xs_cons rfl (xs_cons rfl xs_nil)) xs_nil rfl rfl (r p 0 (by omega) (by omega))) rfl rfl rfl rfl) (x_cmp (x_callL h4 (xs_cons c9 xs_nil) xs_nil rfl rfl r9) (x_lst (xs_cons rfl (xs_cons rfl (xs_cons rfl (xs_cons rfl (xs_cons rfl (xs_cons rfl xs_nil)))))) rfl (show (6 : Nat) ≤ 16777216 by decide)) rfl rfl ce))
      exact y_run (y_nx s1 (y_nx s2 (y_nx (s3 _) (y_nx s4 (y_nx (s5 _) (y_nx s6 (y_nx s7 (y_nx (s8 _) (y_rt s9))))))))) rfl
    · cases h
  · cases h
/-- _law_pot -/
def irPot (c1 c2 : Int) : Sms := (.cons (.asg 2 (.bin .add (.bin .mul (.cst (.int c1)) (.var 1)) (.cst (.int c2))) false) (.cons (.ite (.cmp .lt (.var 1) (.bi .len (.cons (.var 0) .nil))) (.cons (.asg 2 (.bi .abs (.cons (.idx (.var 0) (.var 1)) .nil)) false) .nil) .nil) (.cons (.ret (.lst (.cons (.bi .max (.cons (.cst (.int (0))) (.cons (.bin .sub (.var 2) (.bin .pow (.cst (.int (10))) (.cst (.int (18))))) .nil))) (.cons (.bin .add (.bin .md (.bi .int (.cons (.bin .add (.bin .add (.bin .mul (.bin .md (.bi .int (.cons (.var 2) .nil)) (.cst (.int (2147483549)))) (.cst (.int (40014)))) (.bin .mul (.cst (.int c2)) (.var 1))) (.cst (.int (61)))) .nil)) (.cst (.int (2147483563)))) (.cst (.int (1)))) .nil)))) .nil)))
def potA (c1 c2 : Int) (ns : List Int) (k : Nat) : Int := match ns[k]? with
  | some x => if x < 0 then -x else x
  | none => c1 * k + c2
def potR (c1 c2 : Int) (ns : List Int) (k : Nat) : Int × Int :=
  (if 0 < potA c1 c2 ns k - 1000000000000000000 then potA c1 c2 ns k - 1000000000000000000 else 0, (potA c1 c2 ns k % 2147483549 * 40014 + c2 * k + 61) % 2147483563 + 1)
def fPot (c1 c2 : Int) : Run
  | [d, .int k] => (scrOf d).bind fun ns => if 0 ≤ k ∧ k ≤ 1000 then some (.ow (potD (potR c1 c2 ns k.toNat).1 (potR c1 c2 ns k.toNat).2), []) else none
  | _ => none
theorem scr_is {d : PyData} {ns : List Int} (h : scrOf d = some ns) : d = scrD ns := by
  unfold scrOf at h
  split at h
  · rw [allInts_eq h]
    rfl
  · cases h
theorem len_scr (ns : List Int) : biD .len [scrD ns] = some (.va (.int (ns.length : Int))) := by
  show (scrOf (scrD ns)).map (fun ns => Rv.va (.int ns.length)) = _
  rw [scrOf_scr]
  rfl
theorem idx_scr {ns : List Int} {k : Nat} {x : Int} (h : ns[k]? = some x) : idxD (scrD ns) (.int (k : Int)) = some (.int x) := by
  show (scrOf (scrD ns)).bind (fun ns => (L2.atI ns (k : Int)).map PyData.int) = _
  rw [scrOf_scr]
  show (L2.atI ns (k : Int)).map PyData.int = _
  rw [L2.atI_nat h]
  rfl
theorem does_pot {c1 c2 : Int} (b1 : c1.natAbs < 2 ^ 40) (b2 : c2.natAbs < 2 ^ 40) : Does (fPot c1 c2) Γ false 3 (irPot c1 c2) := by
  intro ds z h
  unfold fPot at h
  split at h
  · rename_i d k
    rw [Option.bind_eq_some_iff] at h
    obtain ⟨ns, hd, h⟩ := h
    split at h
    · rename_i hk
      cases h
      have hd := scr_is hd
      subst hd
      obtain ⟨k, rfl⟩ := Int.eq_ofNat_of_zero_le hk.1
      rw [Int.toNat_natCast]
      have hk : k ≤ 1000 := by omega
      have m1 : mulOk c1 (k : Int) = true := mulOk_of 40 10 b1 (by omega) (by omega)
      have m2 : mulOk c2 (k : Int) = true := mulOk_of 40 10 b2 (by omega) (by omega)
      have hpw : binD .pow (.int 10) (.int 18) = some (.va (.int 1000000000000000000)) := by
        rw [binD, if_pos (by decide)]
        rfl
      have fin : ∀ v : Int, v = potA c1 c2 ns k → exSs Γ nF (.cons (.ret (.lst (.cons (.bi .max (.cons (.cst (.int (0))) (.cons (.bin .sub (.var 2) (.bin .pow (.cst (.int (10))) (.cst (.int (18))))) .nil))) (.cons (.bin .add (.bin .md (.bi .int (.cons (.bin .add (.bin .add (.bin .mul (.bin .md (.bi .int (.cons (.var 2) .nil)) (.cst (.int (2147483549)))) (.cst (.int (40014)))) (.bin .mul (.cst (.int c2)) (.var 1))) (.cst (.int (61)))) .nil)) (.cst (.int (2147483563)))) (.cst (.int (1)))) .nil)))) .nil) [.va (scrD ns), .va (.int (k : Int)), .va (.int v)] = some (.rt (.ow (potD (potR c1 c2 ns k).1 (potR c1 c2 ns k).2)) [.va (scrD ns), .va (.int (k : Int)), .va (.int v)]) := by
        intro v ev
        unfold potR
        rw [← ev]
        have m3 : mulOk (v % 2147483549) 40014 = true := mulOk_of 32 16 (by omega) (by decide) (by omega)
        exact y_rt (y_retO (x_lst (xs_cons (x_biV (xs_cons rfl (xs_cons (x_binV rfl (x_binV rfl rfl rfl rfl hpw) rfl rfl rfl) xs_nil)) rfl rfl) (xs_cons (x_binV (x_md (x_biV (xs_cons (x_binV (x_binV (x_mul (x_md (x_biV (xs_cons rfl xs_nil) rfl rfl) rfl rfl rfl (by omega)) rfl rfl rfl m3) (x_mul rfl rfl rfl rfl m2) rfl rfl rfl) rfl rfl rfl rfl) xs_nil) rfl rfl) rfl rfl rfl (by omega)) rfl rfl rfl rfl) xs_nil)) rfl (show (2 : Nat) ≤ 16777216 by decide)))
      have s1 : exS Γ nF (.asg 2 (.bin .add (.bin .mul (.cst (.int c1)) (.var 1)) (.cst (.int c2))) false) [.va (scrD ns), .va (.int (k : Int)), .no] = some (.nx [.va (scrD ns), .va (.int (k : Int)), .va (.int (c1 * k + c2))]) := y_asgV (x_binV (x_mul rfl rfl rfl rfl m1) rfl rfl rfl rfl) rfl rfl
      have tc : ∀ t : Bool, decide ((k : Int) < (ns.length : Int)) = t → evE Γ (.cmp .lt (.var 1) (.bi .len (.cons (.var 0) .nil))) [.va (scrD ns), .va (.int (k : Int)), .va (.int (c1 * k + c2))] = some (.va (.bool t), [.va (scrD ns), .va (.int (k : Int)), .va (.int (c1 * k + c2))]) := fun t ht =>
        x_cmp rfl (x_biV (xs_cons rfl xs_nil) rfl (len_scr ns)) rfl rfl (congrArg some ht)
      by_cases h : k < ns.length
      · obtain ⟨x, hx⟩ : ∃ x, ns[k]? = some x := ⟨_, List.getElem?_eq_getElem h⟩
        have s2 : exS Γ nF (.ite (.cmp .lt (.var 1) (.bi .len (.cons (.var 0) .nil))) (.cons (.asg 2 (.bi .abs (.cons (.idx (.var 0) (.var 1)) .nil)) false) .nil) .nil) [.va (scrD ns), .va (.int (k : Int)), .va (.int (c1 * k + c2))] = some (.nx [.va (scrD ns), .va (.int (k : Int)), .va (.int (if x < 0 then -x else x))]) :=
          y_ifT (tc true (decide_eq_true (by omega))) (y_nx (y_asgV (x_biV (xs_cons (x_idx rfl rfl rfl rfl (idx_scr hx)) xs_nil) rfl rfl) rfl rfl) y_nil)
        exact y_run (y_nx s1 (y_nx s2 (fin _ (by unfold potA; rw [hx])))) rfl
      · have hx : ns[k]? = none := List.getElem?_eq_none (by omega)
        have s2 : exS Γ nF (.ite (.cmp .lt (.var 1) (.bi .len (.cons (.var 0) .nil))) (.cons (.asg 2 (.bi .abs (.cons (.idx (.var 0) (.var 1)) .nil)) false) .nil) .nil) [.va (scrD ns), .va (.int (k : Int)), .va (.int (c1 * k + c2))] = some (.nx [.va (scrD ns), .va (.int (k : Int)), .va (.int (c1 * k + c2))]) :=
          y_ifF (tc false (decide_eq_false (by omega))) y_nil
        exact y_run (y_nx s1 (y_nx s2 (fin _ (by unfold potA; rw [hx])))) rfl
    · cases h
  · cases h
theorem run_pot {c1 c2 : Int} {ns : List Int} {k : Nat} (hk : k ≤ 1000) : fPot c1 c2 [scrD ns, .int (k : Int)] = some (.ow (potD (potR c1 c2 ns k).1 (potR c1 c2 ns k).2), []) := by
  unfold fPot
  dsimp only
  rw [scrOf_scr]
  show (if _ then _ else none) = _
  rw [if_pos ⟨by omega, by omega⟩, Int.toNat_natCast]
theorem potR_ok (c1 c2 : Int) (ns : List Int) (k : Nat) : bOk (potR c1 c2 ns k).2 := by
  unfold potR bOk
  dsimp only
  omega
def irLaw97 (pt hr sr : Nat) : Sms := (.cons (.for_ (.nm 1) (.rng (.cons (.bi .max (.cons (.cst (.int (1))) (.cons (.bi .min (.cons (.cst (.int (3))) (.cons (.bi .len (.cons (.var 0) .nil)) .nil))) .nil))) .nil)) (.cons (.asg 2 (.call pt (.cons (.var 0) (.cons (.var 1) .nil)) .nil [0, 1]) false) (.cons (.ite (.or_ (.not_ (.call hr (.cons (.var 2) .nil) .nil [0])) (.not_ (.call sr (.cons (.var 2) .nil) .nil [0]))) (.cons (.ret (.cst (.bool false))) .nil) .nil) .nil))) (.cons (.ret (.cst (.bool true))) .nil))
def fLawD : Run
  | [d] => (scrOf d).bind fun ns => if ns.length ≤ 63 then some (.va (.bool true), []) else none
  | _ => none
theorem run_law {ns : List Int} (h : ns.length ≤ 63) : fLawD [scrD ns] = some (.va (.bool true), []) := by
  unfold fLawD
  dsimp only
  rw [scrOf_scr]
  exact if_pos h
theorem does_law97 {c1 c2 q : Int} {pt hr sr : Nat} (h1 : Γ pt = some ⟨false, fPot c1 c2⟩) (h2 : Γ hr = some ⟨true, fHeadsRight q⟩) (h3 : Γ sr = some ⟨true, fSumsRight q⟩) : Does fLawD Γ false 3 (irLaw97 pt hr sr) := by
  intro ds z h
  unfold fLawD at h
  split at h
  · rename_i d
    rw [Option.bind_eq_some_iff] at h
    obtain ⟨ns, hd, h⟩ := h
    split at h
    · rename_i hl
      cases h
      have hd := scr_is hd
      subst hd
      obtain ⟨w, hw, hw3⟩ : ∃ w : Nat, (if (1 : Int) < (if (ns.length : Int) < 3 then (ns.length : Int) else 3) then (if (ns.length : Int) < 3 then (ns.length : Int) else 3) else 1) = w ∧ w ≤ 3 := by
        by_cases ha : (ns.length : Int) < 3
        · rw [if_pos ha]
          by_cases hb : (1 : Int) < (ns.length : Int)
          · rw [if_pos hb]
            exact ⟨ns.length, rfl, by omega⟩
          · rw [if_neg hb]
            exact ⟨1, rfl, by omega⟩
        · rw [if_neg ha]
          exact ⟨3, rfl, by omega⟩
      have hsrc : evS Γ (.rng (.cons (.bi .max (.cons (.cst (.int (1))) (.cons (.bi .min (.cons (.cst (.int (3))) (.cons (.bi .len (.cons (.var 0) .nil)) .nil))) .nil))) .nil)) [.va (scrD ns), .no, .no] = some ((List.range' 0 w).map fun (k : Nat) => PyData.int (k : Int), [.va (scrD ns), .no, .no]) := by
        refine src_nat (m := w) ?_ (by omega)
        have bm : biD .max [.int 1, .int (if (ns.length : Int) < 3 then (ns.length : Int) else 3)] = some (.va (.int (w : Int))) := by
          rw [← hw]
          rfl
        exact x_biV (xs_cons rfl (xs_cons (x_biV (xs_cons rfl (xs_cons (x_biV (xs_cons rfl xs_nil) rfl (len_scr ns)) xs_nil)) rfl rfl) xs_nil)) rfl bm
      obtain ⟨x', hx⟩ := forL_range (tg := fun d e => asgT Γ (.nm 1) d e) (b := fun e => exSs Γ nF (.cons (.asg 2 (.call pt (.cons (.var 0) (.cons (.var 1) .nil)) .nil [0, 1]) false) (.cons (.ite (.or_ (.not_ (.call hr (.cons (.var 2) .nil) .nil [0])) (.not_ (.call sr (.cons (.var 2) .nil) .nil [0]))) (.cons (.ret (.cst (.bool false))) .nil) .nil) .nil)) e)
        (fun (x : Cell × Cell) (s : Unit) => [.va (scrD ns), x.1, x.2]) (fun _ => ()) (fun i => .int (i : Int)) w 0 (fun i _ hi x => by
          have g1 := run_pot (c1 := c1) (c2 := c2) (ns := ns) (k := i) (by omega)
          have hb := potR_ok c1 c2 ns i
          generalize hP : potR c1 c2 ns i = Pt at *
          obtain ⟨a, b⟩ := Pt
          have hb : bOk b := hb
          have g2 : ∃ a2 b2, bOk b2 ∧ fHeadsRight q [.list (potD a b)] = some (.va (.bool true), potD a2 b2) := ⟨_, _, bOk_draw (bOk_draw (p := (a, b)) hb), if_pos hb⟩
          obtain ⟨a2, b2, hb2, g2⟩ := g2
          have g3 : ∃ a3 b3, fSumsRight q [.list (potD a2 b2)] = some (.va (.bool true), potD a3 b3) := ⟨_, _, if_pos hb2⟩
          obtain ⟨a3, b3, g3⟩ := g3
          refine ⟨(.va (.int (i : Int)), .ow (potD a3 b3)), ?_⟩
          show exSs Γ nF _ [.va (scrD ns), .va (.int (i : Int)), x.2] = some (.nx [.va (scrD ns), .va (.int (i : Int)), .ow (potD a3 b3)])
          have t1 : evE Γ (.not_ (.call hr (.cons (.var 2) .nil) .nil [0])) [.va (scrD ns), .va (.int (i : Int)), .ow (potD a b)] = some (.va (.bool false), [.va (scrD ns), .va (.int (i : Int)), .ow (potD a2 b2)]) :=
            x_not (t := true) (x_callSO h2 (xs_cons rfl xs_nil) rfl rfl rfl g2 rfl)
          have t2 : evE Γ (.not_ (.call sr (.cons (.var 2) .nil) .nil [0])) [.va (scrD ns), .va (.int (i : Int)), .ow (potD a2 b2)] = some (.va (.bool false), [.va (scrD ns), .va (.int (i : Int)), .ow (potD a3 b3)]) :=
            x_not (t := true) (x_callSO h3 (xs_cons rfl xs_nil) rfl rfl rfl g3 rfl)
          exact y_nx (y_asgO (x_callL h1 (xs_cons rfl (xs_cons rfl xs_nil)) xs_nil rfl rfl g1) rfl rfl) (y_nx (y_ifF (x_orF t1 t2) y_nil) y_nil)) (.no, .no)
      exact y_run (out := .rt (.va (.bool true)) [.va (scrD ns), x'.1, x'.2]) (y_nx (y_for hsrc hx) (y_rt (y_retV rfl))) rfl
    · cases h
  · cases h
end
end Pd

/-! the defs of a module, one after another -/
namespace Pd
open PySem PySem.Spec PyProof.Rows L2
structure GI (P : Program) (w : World) (K : PySem.W.Frag) (mg : Str → Option Value) (base : Heap) (Γ : Tab) (lv : Nat) (fns : List FnI) (glb : List (Str × PyData)) : Prop where
  bi : ∀ x ∈ bNames, mg x = none
  fns : ∀ x k g, fnAt x fns 0 = some (k, g) → ∃ sig f fd, Γ k = some sig ∧ mg x = some (.ref f) ∧ PySem.W.keepIn K (.ref f) = true ∧ FnD P w K mg base lv f fd g.ps (spD K sig) ∧ ∀ m ks pm, shapeAt m ks g.shapes = some pm → BindsD K fd g.ps m ks pm
  glb : ∀ x d, glb.lookup x = some d → ∃ v u, mg x = some u ∧ RelV v u ∧ ∀ G, Rp K G v d
def BAll (K : PySem.W.Frag) (fd : FuncData) (ps : List Str) : List (Nat × List Str × List Nat) → Prop
  | [] => True
  | (m, ks, pm) :: r => BindsD K fd ps m ks pm ∧ BAll K fd ps r
theorem BAll.at {K : PySem.W.Frag} {fd : FuncData} {ps : List Str} : ∀ {sh : List (Nat × List Str × List Nat)}, BAll K fd ps sh → ∀ m ks pm, shapeAt m ks sh = some pm → BindsD K fd ps m ks pm
  | [], _, m, ks, pm, h => by cases h
  | (a, b, q) :: r, hb, m, ks, pm, h => by
    unfold shapeAt at h
    split at h
    · rename_i e
      rw [Bool.and_eq_true] at e
      cases h
      have e1 := eq_of_beq e.1
      have e2 := eq_of_beq e.2
      subst e1
      subst e2
      exact hb.1
    · exact BAll.at hb.2 m ks pm h
def GAll (K : PySem.W.Frag) (mg : Str → Option Value) : List (Str × PyData) → Prop
  | [] => True
  | (x, d) :: r => (∃ v u, mg x = some u ∧ RelV v u ∧ ∀ G, Rp K G v d) ∧ GAll K mg r
theorem GAll.at {K : PySem.W.Frag} {mg : Str → Option Value} : ∀ {l : List (Str × PyData)}, GAll K mg l → ∀ x d, l.lookup x = some d → ∃ v u, mg x = some u ∧ RelV v u ∧ ∀ G, Rp K G v d
  | [], _, x, d, h => by cases h
  | (y, e) :: r, hg, x, d, h => by
    rw [List.lookup_cons] at h
    split at h
    · rename_i q
      cases h
      rw [eq_of_beq q]
      exact hg.1
    · exact GAll.at hg.2 x d h
theorem fnAt_snoc {x : Str} {g : FnI} : ∀ {fs : List FnI} {k0 k : Nat} {g' : FnI}, fnAt x (fs ++ [g]) k0 = some (k, g') → fnAt x fs k0 = some (k, g') ∨ (k = k0 + fs.length ∧ g' = g ∧ g.name = x)
  | [], k0, k, g', h => by
    have h : (if g.name == x then some (k0, g) else fnAt x [] (k0 + 1)) = some (k, g') := h
    by_cases e : (g.name == x) = true
    · rw [if_pos e] at h
      cases h
      exact .inr ⟨rfl, rfl, eq_of_beq e⟩
    · rw [if_neg e] at h
      cases h
  | f :: fs, k0, k, g', h => by
    have h : (if f.name == x then some (k0, f) else fnAt x (fs ++ [g]) (k0 + 1)) = some (k, g') := h
    show (if f.name == x then some (k0, f) else fnAt x fs (k0 + 1)) = some (k, g') ∨ _
    by_cases e : (f.name == x) = true
    · rw [if_pos e] at h ⊢
      exact .inl h
    · rw [if_neg e] at h ⊢
      rcases fnAt_snoc h with z | ⟨z1, z2, z3⟩
      · exact .inl z
      · exact .inr ⟨by rw [z1, List.length_cons]; omega, z2, z3⟩
section
variable {P : Program} {w : World} {K : PySem.W.Frag} {mg : Str → Option Value} {base : Heap} {Γ : Tab} {lv n : Nat}
theorem GI.start (bi : ∀ x ∈ bNames, mg x = none) {glb : List (Str × PyData)} (hg : GAll K mg glb) : GI P w K mg base Γ 0 [] glb :=
  ⟨bi, (fun x k g h => nomatch h), hg.at⟩
/-- one def more -/
theorem GI.step {c : CC} {st : Stmt} {f : Addr} {fd : FuncData} {g : FnI} {qual : Str} {m : Nat} {io : Bool} {irs : Sms} {fr : List PyData → Option (Rv × List PyData)} (h : GI P w K mg base Γ lv c.fns c.glb) (F : Fun K g.name qual st f fd) (S : FnScope c.N g.ps (defScope st)) (hsc : c.sc = defScope st) (hb : cSs m c (defBody st) = some irs)
    (hd : ∀ ds z, fr ds = some z → runD Γ n io c.N.length irs ds = some z) (hl : ∀ ds z, fr ds = some z → ds.length = g.ps.length) (e1 : Γ c.fns.length = some ⟨io, fr⟩) (e2 : mg g.name = some (.ref f)) (B : BAll K fd g.ps g.shapes) :
    FnD P w K mg base (lv + 1) f fd g.ps (spD K ⟨io, fr⟩) ∧ GI P w K mg base Γ (lv + 1) (c.fns ++ [g]) c.glb := by
  have D := def_ok (n := n) (io := io) F S hsc (⟨h.bi, h.fns, h.glb⟩ : GO P w K mg base c Γ lv) hb
  have D' : FnD P w K mg base (lv + 1) f fd g.ps (spD K ⟨io, fr⟩) := D.imp rfl fun ds z hz => by
    show (if ds.length = g.ps.length then runD Γ n io c.N.length irs ds else none) = some z
    rw [if_pos (hl ds z hz)]
    exact hd ds z hz
  refine ⟨D', h.bi, fun x k g' hx => ?_, h.glb⟩
  rcases fnAt_snoc hx with z | ⟨z1, z2, z3⟩
  · obtain ⟨sig, f', fd', q1, q2, q3, q4, q5⟩ := h.fns x k g' z
    exact ⟨sig, f', fd', q1, q2, q3, q4.mono (Nat.le_succ _), q5⟩
  · subst z2
    subst z3
    rw [Nat.zero_add] at z1
    subst z1
    exact ⟨_, f, fd, e1, e2, F.kp, D', B.at⟩
theorem bindsD_mk {x qual : Str} {st : Stmt} {f : Addr} {fd : FuncData} {ps ks : List Str} {m : Nat} {pm : List Nat} (F : Fun K x qual st f fd)
    (h : ∀ (kV doc pm' : Value) (an : Option Addr) (cdv ct : Value) (us ws : List Value), us.length = m → ws.length = ks.length → bindArgs (PySem.W.fnOf x qual (defArgs st) (defBody st) (defScope st) .none kV doc pm' an cdv ct) ⟨us, ks.zip ws⟩ = pure (ps.zip (permF (us ++ ws) pm))) : BindsD K fd ps m ks pm := by
  obtain ⟨oc, od, kV, doc, pm', an, cdv, ct, osl, rfl, lk, hcd⟩ := F.ex
  exact fun s us ws _ hu hw => .of_eq (h kV doc pm' an cdv ct us ws hu hw)
end
end Pd

namespace PdK97
open PySem PySem.Spec PyProof.Rows L2 Pd

def topS (i : Nat) : Stmt := PySem.Challenge.pw_twowaycounts_k97_whole_powers_told_and_s.main.body.getD i (.Pass ⟨0, 0, 0, 0⟩)
def glb : List (Str × PyData) := [(("MOST_MANY" : Str), (.int (200))), (("MOST_NUMBERS" : Str), (.int (60))), (("MOST_SIZE" : Str), (.int (1000000000000))), (("MOST_POWER" : Str), (.int (20))), (("MOST_SUMMED" : Str), (.int (1000000)))]
/-! 0: _law_pot(script, k) names [script, k, cell] -/
def st0 : Stmt := topS 39
def N0 : List Str := [("script" : Str), ("k" : Str), ("cell" : Str)]
def F0 : FnI := ⟨("_law_pot" : Str), [("script" : Str), ("k" : Str)], [(2, [], [0, 1])]⟩
def C0 : CC := ⟨N0, defScope st0, [], [], glb, []⟩
def ir0 : Sms := (.cons (.asg 2 (.bin .add (.bin .mul (.cst (.int (3037))) (.var 1)) (.cst (.int (11801)))) false) (.cons (.ite (.cmp .lt (.var 1) (.bi .len (.cons (.var 0) .nil))) (.cons (.asg 2 (.bi .abs (.cons (.idx (.var 0) (.var 1)) .nil)) false) .nil) .nil) (.cons (.ret (.lst (.cons (.bi .max (.cons (.cst (.int (0))) (.cons (.bin .sub (.var 2) (.bin .pow (.cst (.int (10))) (.cst (.int (18))))) .nil))) (.cons (.bin .add (.bin .md (.bi .int (.cons (.bin .add (.bin .add (.bin .mul (.bin .md (.bi .int (.cons (.var 2) .nil)) (.cst (.int (2147483549)))) (.cst (.int (40014)))) (.bin .mul (.cst (.int (11801))) (.var 1))) (.cst (.int (61)))) .nil)) (.cst (.int (2147483563)))) (.cst (.int (1)))) .nil)))) .nil)))
theorem cs0 : cSs 60 C0 (defBody st0) = some ir0 := by kernel_rfl
theorem sc0 : FnScope N0 [("script" : Str), ("k" : Str)] (defScope st0) := ⟨rfl, rfl, rfl, by decide +kernel, rfl, by decide +kernel, by decide +kernel⟩
/-! 1: _law_draw(pot, many) names [pot, many, digit] -/
def st1 : Stmt := topS 40
def N1 : List Str := [("pot" : Str), ("many" : Str), ("digit" : Str)]
def F1 : FnI := ⟨("_law_draw" : Str), [("pot" : Str), ("many" : Str)], [(2, [], [0, 1])]⟩
def C1 : CC := ⟨N1, defScope st1, [], [F0], glb, []⟩
def ir1 : Sms := (.cons (.ite (.cmp .gt (.idx (.var 0) (.cst (.int (0)))) (.cst (.int (0)))) (.cons (.asgT (.tp (.cons (.sb 0 (.cst (.int (0)))) (.cons (.nm 2) .nil))) (.bi .divmod (.cons (.idx (.var 0) (.cst (.int (0)))) (.cons (.var 1) .nil)))) (.cons (.ret (.var 2)) .nil)) .nil) (.cons (.asgT (.sb 0 (.cst (.int (1)))) (.bin .md (.bi .int (.cons (.bin .add (.bin .mul (.idx (.var 0) (.cst (.int (1)))) (.cst (.int (39373)))) (.cst (.int (3041)))) .nil)) (.cst (.int (2147483587))))) (.cons (.ret (.bin .md (.bi .int (.cons (.bin .fdiv (.bin .md (.bi .int (.cons (.bin .mul (.idx (.var 0) (.cst (.int (1)))) (.idx (.var 0) (.cst (.int (1))))) .nil)) (.cst (.int (2147483563)))) (.cst (.int (19)))) .nil)) (.var 1))) .nil)))
theorem cs1 : cSs 60 C1 (defBody st1) = some ir1 := by kernel_rfl
theorem sc1 : FnScope N1 [("pot" : Str), ("many" : Str)] (defScope st1) := ⟨rfl, rfl, rfl, by decide +kernel, rfl, by decide +kernel, by decide +kernel⟩
/-! 2: _law_power(number, power) names [number, power, found, turn] -/
def st2 : Stmt := topS 52
def N2 : List Str := [("number" : Str), ("power" : Str), ("found" : Str), ("turn" : Str)]
def F2 : FnI := ⟨("_law_power" : Str), [("number" : Str), ("power" : Str)], [(2, [], [0, 1])]⟩
def C2 : CC := ⟨N2, defScope st2, [], [F0, F1], glb, []⟩
def ir2 : Sms := (.cons (.asg 2 (.cst (.int (1))) false) (.cons (.for_ (.nm 3) (.rng (.cons (.var 1) .nil)) (.cons (.asg 2 (.bin .mul (.var 2) (.var 0)) false) .nil)) (.cons (.ret (.var 2)) .nil)))
theorem cs2 : cSs 60 C2 (defBody st2) = some ir2 := by kernel_rfl
theorem sc2 : FnScope N2 [("number" : Str), ("power" : Str)] (defScope st2) := ⟨rfl, rfl, rfl, by decide +kernel, rfl, by decide +kernel, by decide +kernel⟩
/-! 3: _law_rows(numbers) names [numbers, found, here, turn, near, far] -/
def st3 : Stmt := topS 51
def N3 : List Str := [("numbers" : Str), ("found" : Str), ("here" : Str), ("turn" : Str), ("near" : Str), ("far" : Str)]
def F3 : FnI := ⟨("_law_rows" : Str), [("numbers" : Str)], [(1, [], [0])]⟩
def C3 : CC := ⟨N3, defScope st3, [], [F0, F1, F2], glb, []⟩
def ir3 : Sms := (.cons (.par [1, 2] (.cons (.lst .nil) (.cons (.bi .list (.cons (.var 0) .nil)) .nil))) (.cons (.for_ (.nm 3) (.rng (.cons (.bi .len (.cons (.var 0) .nil)) .nil)) (.cons (.exp (.mut .append 1 (.cons (.var 2) .nil))) (.cons (.asg 2 (.comp (.bin .sub (.var 5) (.var 4)) (.tp (.cons (.nm 4) (.cons (.nm 5) .nil))) (.zip (.var 2) (.slc (.var 2) (.yes (.cst (.int (1)))) .no)) .nil [4, 5]) false) .nil))) (.cons (.ret (.var 1)) .nil)))
theorem cs3 : cSs 60 C3 (defBody st3) = some ir3 := by kernel_rfl
theorem sc3 : FnScope N3 [("numbers" : Str)] (defScope st3) := ⟨rfl, rfl, rfl, by decide +kernel, rfl, by decide +kernel, by decide +kernel⟩
/-! 4: is_integer(value) names [value] -/
def st4 : Stmt := topS 1
def N4 : List Str := [("value" : Str)]
def F4 : FnI := ⟨("is_integer" : Str), [("value" : Str)], [(1, [], [0])]⟩
def C4 : CC := ⟨N4, defScope st4, [], [F0, F1, F2, F3], glb, []⟩
def ir4 : Sms := (.cons (.ret (.and_ (.isi [.int] (.var 0)) (.not_ (.isi [.bool] (.var 0))))) .nil)
theorem cs4 : cSs 60 C4 (defBody st4) = some ir4 := by kernel_rfl
theorem sc4 : FnScope N4 [("value" : Str)] (defScope st4) := ⟨rfl, rfl, rfl, by decide +kernel, rfl, by decide +kernel, by decide +kernel⟩
/-! 5: is_within(value, least, most) names [value, least, most] -/
def st5 : Stmt := topS 2
def N5 : List Str := [("value" : Str), ("least" : Str), ("most" : Str)]
def F5 : FnI := ⟨("is_within" : Str), [("value" : Str), ("least" : Str), ("most" : Str)], [(3, [], [0, 1, 2])]⟩
def C5 : CC := ⟨N5, defScope st5, [], [F0, F1, F2, F3, F4], glb, []⟩
def ir5 : Sms := (.cons (.ret (.and_ (.call 4 (.cons (.var 0) .nil) .nil [0]) (.chn .le .le (.var 1) (.var 0) (.var 2)))) .nil)
theorem cs5 : cSs 60 C5 (defBody st5) = some ir5 := by kernel_rfl
theorem sc5 : FnScope N5 [("value" : Str), ("least" : Str), ("most" : Str)] (defScope st5) := ⟨rfl, rfl, rfl, by decide +kernel, rfl, by decide +kernel, by decide +kernel⟩
/-! 6: want_power(power) names [power] -/
def st6 : Stmt := topS 29
def N6 : List Str := [("power" : Str)]
def F6 : FnI := ⟨("want_power" : Str), [("power" : Str)], [(1, [], [0])]⟩
def C6 : CC := ⟨N6, defScope st6, [], [F0, F1, F2, F3, F4, F5], glb, []⟩
def ir6 : Sms := (.cons (.ite (.not_ (.call 5 (.cons (.var 0) (.cons (.cst (.int (0))) (.cons (.cst (.int (20))) .nil))) .nil [0, 1, 2])) (.cons .stop .nil) .nil) .nil)
theorem cs6 : cSs 60 C6 (defBody st6) = some ir6 := by kernel_rfl
theorem sc6 : FnScope N6 [("power" : Str)] (defScope st6) := ⟨rfl, rfl, rfl, by decide +kernel, rfl, by decide +kernel, by decide +kernel⟩
/-! 7: signed(numbers) names [numbers, at, one] -/
def st7 : Stmt := topS 22
def N7 : List Str := [("numbers" : Str), ("at" : Str), ("one" : Str)]
def F7 : FnI := ⟨("signed" : Str), [("numbers" : Str)], [(1, [], [0])]⟩
def C7 : CC := ⟨N7, defScope st7, [], [F0, F1, F2, F3, F4, F5, F6], glb, []⟩
def ir7 : Sms := (.cons (.ret (.comp (.ite (.cmp .eq (.bin .md (.bi .int (.cons (.var 1) .nil)) (.cst (.int (2)))) (.cst (.int (0)))) (.var 2) (.bin .sub (.cst (.int (0))) (.var 2))) (.tp (.cons (.nm 1) (.cons (.nm 2) .nil))) (.enum (.var 0)) .nil [1, 2])) .nil)
theorem cs7 : cSs 60 C7 (defBody st7) = some ir7 := by kernel_rfl
theorem sc7 : FnScope N7 [("numbers" : Str)] (defScope st7) := ⟨rfl, rfl, rfl, by decide +kernel, rfl, by decide +kernel, by decide +kernel⟩
/-! 8: choose_of(many, some) names [many, some, found, at] -/
def st8 : Stmt := topS 15
def N8 : List Str := [("many" : Str), ("some" : Str), ("found" : Str), ("at" : Str)]
def F8 : FnI := ⟨("choose_of" : Str), [("many" : Str), ("some" : Str)], [(2, [], [0, 1])]⟩
def C8 : CC := ⟨N8, defScope st8, [], [F0, F1, F2, F3, F4, F5, F6, F7], glb, []⟩
def ir8 : Sms := (.cons (.ite (.cmp .gt (.var 1) (.var 0)) (.cons (.ret (.cst (.int (0)))) .nil) .nil) (.cons (.asg 2 (.cst (.int (1))) false) (.cons (.for_ (.nm 3) (.rng (.cons (.bi .min (.cons (.var 1) (.cons (.bin .sub (.var 0) (.var 1)) .nil))) .nil)) (.cons (.asg 2 (.bin .fdiv (.bin .mul (.var 2) (.bin .sub (.var 0) (.var 3))) (.bin .add (.var 3) (.cst (.int (1))))) false) .nil)) (.cons (.ret (.var 2)) .nil))))
theorem cs8 : cSs 60 C8 (defBody st8) = some ir8 := by kernel_rfl
theorem sc8 : FnScope N8 [("many" : Str), ("some" : Str)] (defScope st8) := ⟨rfl, rfl, rfl, by decide +kernel, rfl, by decide +kernel, by decide +kernel⟩
/-! 9: summed_at(numbers, place) names [numbers, place, at, one] -/
def st9 : Stmt := topS 21
def N9 : List Str := [("numbers" : Str), ("place" : Str), ("at" : Str), ("one" : Str)]
def F9 : FnI := ⟨("summed_at" : Str), [("numbers" : Str), ("place" : Str)], [(2, [], [0, 1])]⟩
def C9 : CC := ⟨N9, defScope st9, [("place" : Str)], [F0, F1, F2, F3, F4, F5, F6, F7, F8], glb, []⟩
def ir9 : Sms := (.cons (.ret (.bi .sum (.cons (.comp (.bin .mul (.call 8 (.cons (.var 1) (.cons (.var 2) .nil)) .nil [0, 1]) (.var 3)) (.tp (.cons (.nm 2) (.cons (.nm 3) .nil))) (.enum (.slc (.var 0) .no (.yes (.bin .add (.var 1) (.cst (.int (1))))))) .nil [2, 3]) .nil))) .nil)
theorem cs9 : cSs 60 C9 (defBody st9) = some ir9 := by kernel_rfl
theorem sc9 : FnScope N9 [("numbers" : Str), ("place" : Str)] (defScope st9) := ⟨rfl, rfl, rfl, by decide +kernel, rfl, by decide +kernel, by decide +kernel⟩
/-! 10: sums_of(numbers) names [numbers, place] -/
def st10 : Stmt := topS 23
def N10 : List Str := [("numbers" : Str), ("place" : Str)]
def F10 : FnI := ⟨("sums_of" : Str), [("numbers" : Str)], [(1, [], [0])]⟩
def C10 : CC := ⟨N10, defScope st10, [("numbers" : Str)], [F0, F1, F2, F3, F4, F5, F6, F7, F8, F9], glb, []⟩
def ir10 : Sms := (.cons (.ret (.comp (.call 9 (.cons (.var 0) (.cons (.var 1) .nil)) .nil [0, 1]) (.nm 1) (.rng (.cons (.bi .len (.cons (.var 0) .nil)) .nil)) .nil [1])) .nil)
theorem cs10 : cSs 60 C10 (defBody st10) = some ir10 := by kernel_rfl
theorem sc10 : FnScope N10 [("numbers" : Str)] (defScope st10) := ⟨rfl, rfl, rfl, by decide +kernel, rfl, by decide +kernel, by decide +kernel⟩
/-! 11: back_of(numbers) names [numbers] -/
def st11 : Stmt := topS 24
def N11 : List Str := [("numbers" : Str)]
def F11 : FnI := ⟨("back_of" : Str), [("numbers" : Str)], [(1, [], [0])]⟩
def C11 : CC := ⟨N11, defScope st11, [], [F0, F1, F2, F3, F4, F5, F6, F7, F8, F9, F10], glb, []⟩
def ir11 : Sms := (.cons (.ret (.call 7 (.cons (.call 10 (.cons (.call 7 (.cons (.var 0) .nil) .nil [0]) .nil) .nil [0]) .nil) .nil [0])) .nil)
theorem cs11 : cSs 60 C11 (defBody st11) = some ir11 := by kernel_rfl
theorem sc11 : FnScope N11 [("numbers" : Str)] (defScope st11) := ⟨rfl, rfl, rfl, by decide +kernel, rfl, by decide +kernel, by decide +kernel⟩
/-! 12: heads_of_power(power) names [power, values, one, found, turn] -/
def st12 : Stmt := topS 32
def N12 : List Str := [("power" : Str), ("values" : Str), ("one" : Str), ("found" : Str), ("turn" : Str)]
def F12 : FnI := ⟨("heads_of_power" : Str), [("power" : Str)], [(1, [], [0])]⟩
def C12 : CC := ⟨N12, defScope st12, [], [F0, F1, F2, F3, F4, F5, F6, F7, F8, F9, F10, F11], glb, []⟩
def ir12 : Sms := (.cons (.asg 1 (.lst .nil) false) (.cons (.for_ (.nm 2) (.rng (.cons (.bin .add (.var 0) (.cst (.int (1)))) .nil)) (.cons (.asg 3 (.cst (.int (1))) false) (.cons (.for_ (.nm 4) (.rng (.cons (.var 0) .nil)) (.cons (.asg 3 (.bin .mul (.var 3) (.var 2)) false) .nil)) (.cons (.exp (.mut .append 1 (.cons (.var 3) .nil))) .nil)))) (.cons (.ret (.call 11 (.cons (.var 1) .nil) .nil [0])) .nil)))
theorem cs12 : cSs 60 C12 (defBody st12) = some ir12 := by kernel_rfl
theorem sc12 : FnScope N12 [("power" : Str)] (defScope st12) := ⟨rfl, rfl, rfl, by decide +kernel, rfl, by decide +kernel, by decide +kernel⟩
/-! 13: power_heads(power) names [power] -/
def st13 : Stmt := topS 36
def N13 : List Str := [("power" : Str)]
def F13 : FnI := ⟨("power_heads" : Str), [("power" : Str)], [(1, [], [0]), (0, [("power" : Str)], [0])]⟩
def C13 : CC := ⟨N13, defScope st13, [], [F0, F1, F2, F3, F4, F5, F6, F7, F8, F9, F10, F11, F12], glb, []⟩
def ir13 : Sms := (.cons (.exp (.call 6 (.cons (.var 0) .nil) .nil [0])) (.cons (.ret (.call 12 (.cons (.var 0) .nil) .nil [0])) .nil))
theorem cs13 : cSs 60 C13 (defBody st13) = some ir13 := by kernel_rfl
theorem sc13 : FnScope N13 [("power" : Str)] (defScope st13) := ⟨rfl, rfl, rfl, by decide +kernel, rfl, by decide +kernel, by decide +kernel⟩
/-! 14: is_list(value) names [value] -/
def st14 : Stmt := topS 3
def N14 : List Str := [("value" : Str)]
def F14 : FnI := ⟨("is_list" : Str), [("value" : Str)], [(1, [], [0])]⟩
def C14 : CC := ⟨N14, defScope st14, [], [F0, F1, F2, F3, F4, F5, F6, F7, F8, F9, F10, F11, F12, F13], glb, []⟩
def ir14 : Sms := (.cons (.ret (.isi [.list, .tuple] (.var 0))) .nil)
theorem cs14 : cSs 60 C14 (defBody st14) = some ir14 := by kernel_rfl
theorem sc14 : FnScope N14 [("value" : Str)] (defScope st14) := ⟨rfl, rfl, rfl, by decide +kernel, rfl, by decide +kernel, by decide +kernel⟩
/-! 15: want_numbers(numbers) names [numbers, one] -/
def st15 : Stmt := topS 20
def N15 : List Str := [("numbers" : Str), ("one" : Str)]
def F15 : FnI := ⟨("want_numbers" : Str), [("numbers" : Str)], [(1, [], [0])]⟩
def C15 : CC := ⟨N15, defScope st15, [], [F0, F1, F2, F3, F4, F5, F6, F7, F8, F9, F10, F11, F12, F13, F14], glb, []⟩
def ir15 : Sms := (.cons (.ite (.or_ (.not_ (.call 14 (.cons (.var 0) .nil) .nil [0])) (.cmp .gt (.bi .len (.cons (.var 0) .nil)) (.cst (.int (60))))) (.cons .stop .nil) .nil) (.cons (.ite (.not_ (.bi .all (.cons (.comp (.call 5 (.cons (.var 1) (.cons (.bin .sub (.cst (.int (0))) (.cst (.int (1000000000000)))) (.cons (.cst (.int (1000000000000))) .nil))) .nil [0, 1, 2]) (.nm 1) (.ex (.var 0)) .nil [1]) .nil))) (.cons .stop .nil) .nil) .nil))
theorem cs15 : cSs 60 C15 (defBody st15) = some ir15 := by kernel_rfl
theorem sc15 : FnScope N15 [("numbers" : Str)] (defScope st15) := ⟨rfl, rfl, rfl, by decide +kernel, rfl, by decide +kernel, by decide +kernel⟩
/-! 16: want_count(number, most) names [number, most] -/
def st16 : Stmt := topS 28
def N16 : List Str := [("number" : Str), ("most" : Str)]
def F16 : FnI := ⟨("want_count" : Str), [("number" : Str), ("most" : Str)], [(2, [], [0, 1])]⟩
def C16 : CC := ⟨N16, defScope st16, [], [F0, F1, F2, F3, F4, F5, F6, F7, F8, F9, F10, F11, F12, F13, F14, F15], glb, []⟩
def ir16 : Sms := (.cons (.ite (.not_ (.call 5 (.cons (.var 0) (.cons (.cst (.int (0))) (.cons (.var 1) .nil))) .nil [0, 1, 2])) (.cons .stop .nil) .nil) .nil)
theorem cs16 : cSs 60 C16 (defBody st16) = some ir16 := by kernel_rfl
theorem sc16 : FnScope N16 [("number" : Str), ("most" : Str)] (defScope st16) := ⟨rfl, rfl, rfl, by decide +kernel, rfl, by decide +kernel, by decide +kernel⟩
/-! 17: by_heads(heads, place) names [heads, place, at, one] -/
def st17 : Stmt := topS 31
def N17 : List Str := [("heads" : Str), ("place" : Str), ("at" : Str), ("one" : Str)]
def F17 : FnI := ⟨("by_heads" : Str), [("heads" : Str), ("place" : Str)], [(2, [], [0, 1])]⟩
def C17 : CC := ⟨N17, defScope st17, [("place" : Str)], [F0, F1, F2, F3, F4, F5, F6, F7, F8, F9, F10, F11, F12, F13, F14, F15, F16], glb, []⟩
def ir17 : Sms := (.cons (.ret (.bi .sum (.cons (.comp (.bin .mul (.call 8 (.cons (.var 1) (.cons (.var 2) .nil)) .nil [0, 1]) (.var 3)) (.tp (.cons (.nm 2) (.cons (.nm 3) .nil))) (.enum (.var 0)) .nil [2, 3]) .nil))) .nil)
theorem cs17 : cSs 60 C17 (defBody st17) = some ir17 := by kernel_rfl
theorem sc17 : FnScope N17 [("heads" : Str), ("place" : Str)] (defScope st17) := ⟨rfl, rfl, rfl, by decide +kernel, rfl, by decide +kernel, by decide +kernel⟩
/-! 18: number_by(numbers, number) names [numbers, number] -/
def st18 : Stmt := topS 35
def N18 : List Str := [("numbers" : Str), ("number" : Str)]
def F18 : FnI := ⟨("number_by" : Str), [("numbers" : Str), ("number" : Str)], [(2, [], [0, 1])]⟩
def C18 : CC := ⟨N18, defScope st18, [], [F0, F1, F2, F3, F4, F5, F6, F7, F8, F9, F10, F11, F12, F13, F14, F15, F16, F17], glb, []⟩
def ir18 : Sms := (.cons (.exp (.call 15 (.cons (.var 0) .nil) .nil [0])) (.cons (.exp (.call 16 (.cons (.var 1) (.cons (.cst (.int (200))) .nil)) .nil [0, 1])) (.cons (.ret (.call 17 (.cons (.var 0) (.cons (.var 1) .nil)) .nil [0, 1])) .nil)))
theorem cs18 : cSs 60 C18 (defBody st18) = some ir18 := by kernel_rfl
theorem sc18 : FnScope N18 [("numbers" : Str), ("number" : Str)] (defScope st18) := ⟨rfl, rfl, rfl, by decide +kernel, rfl, by decide +kernel, by decide +kernel⟩
/-! 19: told_heads(numbers) names [numbers, found] -/
def st19 : Stmt := topS 30
def N19 : List Str := [("numbers" : Str), ("found" : Str)]
def F19 : FnI := ⟨("told_heads" : Str), [("numbers" : Str)], [(1, [], [0])]⟩
def C19 : CC := ⟨N19, defScope st19, [], [F0, F1, F2, F3, F4, F5, F6, F7, F8, F9, F10, F11, F12, F13, F14, F15, F16, F17, F18], glb, []⟩
def ir19 : Sms := (.cons (.asg 1 (.call 11 (.cons (.var 0) .nil) .nil [0]) false) (.cons (.whl (.and_ (.cmp .ne (.var 1) (.lst .nil)) (.cmp .eq (.idx (.var 1) (.neg (.cst (.int (1))))) (.cst (.int (0))))) (.cons (.exp (.mut .pop 1 .nil)) .nil)) (.cons (.ret (.var 1)) .nil)))
theorem cs19 : cSs 60 C19 (defBody st19) = some ir19 := by kernel_rfl
theorem sc19 : FnScope N19 [("numbers" : Str)] (defScope st19) := ⟨rfl, rfl, rfl, by decide +kernel, rfl, by decide +kernel, by decide +kernel⟩
/-! 20: heads_degree(numbers) names [numbers] -/
def st20 : Stmt := topS 34
def N20 : List Str := [("numbers" : Str)]
def F20 : FnI := ⟨("heads_degree" : Str), [("numbers" : Str)], [(1, [], [0])]⟩
def C20 : CC := ⟨N20, defScope st20, [], [F0, F1, F2, F3, F4, F5, F6, F7, F8, F9, F10, F11, F12, F13, F14, F15, F16, F17, F18, F19], glb, []⟩
def ir20 : Sms := (.cons (.exp (.call 15 (.cons (.var 0) .nil) .nil [0])) (.cons (.ret (.bin .sub (.bi .len (.cons (.call 19 (.cons (.var 0) .nil) .nil [0]) .nil)) (.cst (.int (1))))) .nil))
theorem cs20 : cSs 60 C20 (defBody st20) = some ir20 := by kernel_rfl
theorem sc20 : FnScope N20 [("numbers" : Str)] (defScope st20) := ⟨rfl, rfl, rfl, by decide +kernel, rfl, by decide +kernel, by decide +kernel⟩
/-! 21: want_many(many) names [many] -/
def st21 : Stmt := topS 13
def N21 : List Str := [("many" : Str)]
def F21 : FnI := ⟨("want_many" : Str), [("many" : Str)], [(1, [], [0])]⟩
def C21 : CC := ⟨N21, defScope st21, [], [F0, F1, F2, F3, F4, F5, F6, F7, F8, F9, F10, F11, F12, F13, F14, F15, F16, F17, F18, F19, F20], glb, []⟩
def ir21 : Sms := (.cons (.ite (.not_ (.call 5 (.cons (.var 0) (.cons (.cst (.int (0))) (.cons (.cst (.int (200))) .nil))) .nil [0, 1, 2])) (.cons .stop .nil) .nil) .nil)
theorem cs21 : cSs 60 C21 (defBody st21) = some ir21 := by kernel_rfl
theorem sc21 : FnScope N21 [("many" : Str)] (defScope st21) := ⟨rfl, rfl, rfl, by decide +kernel, rfl, by decide +kernel, by decide +kernel⟩
/-! 22: want_some(some) names [some] -/
def st22 : Stmt := topS 14
def N22 : List Str := [("some" : Str)]
def F22 : FnI := ⟨("want_some" : Str), [("some" : Str)], [(1, [], [0])]⟩
def C22 : CC := ⟨N22, defScope st22, [], [F0, F1, F2, F3, F4, F5, F6, F7, F8, F9, F10, F11, F12, F13, F14, F15, F16, F17, F18, F19, F20, F21], glb, []⟩
def ir22 : Sms := (.cons (.ite (.not_ (.call 5 (.cons (.var 0) (.cons (.cst (.int (0))) (.cons (.cst (.int (200))) .nil))) .nil [0, 1, 2])) (.cons .stop .nil) .nil) .nil)
theorem cs22 : cSs 60 C22 (defBody st22) = some ir22 := by kernel_rfl
theorem sc22 : FnScope N22 [("some" : Str)] (defScope st22) := ⟨rfl, rfl, rfl, by decide +kernel, rfl, by decide +kernel, by decide +kernel⟩
/-! 23: choose(many, some) names [many, some] -/
def st23 : Stmt := topS 16
def N23 : List Str := [("many" : Str), ("some" : Str)]
def F23 : FnI := ⟨("choose" : Str), [("many" : Str), ("some" : Str)], [(2, [], [0, 1])]⟩
def C23 : CC := ⟨N23, defScope st23, [], [F0, F1, F2, F3, F4, F5, F6, F7, F8, F9, F10, F11, F12, F13, F14, F15, F16, F17, F18, F19, F20, F21, F22], glb, []⟩
def ir23 : Sms := (.cons (.exp (.call 21 (.cons (.var 0) .nil) .nil [0])) (.cons (.exp (.call 22 (.cons (.var 1) .nil) .nil [0])) (.cons (.ret (.call 8 (.cons (.var 0) (.cons (.var 1) .nil)) .nil [0, 1])) .nil)))
theorem cs23 : cSs 60 C23 (defBody st23) = some ir23 := by kernel_rfl
theorem sc23 : FnScope N23 [("many" : Str), ("some" : Str)] (defScope st23) := ⟨rfl, rfl, rfl, by decide +kernel, rfl, by decide +kernel, by decide +kernel⟩
/-! 24: _law_heads_right(pot) names [pot, power, values, due, told, late, small, place, one, row, at] -/
def st24 : Stmt := topS 53
def N24 : List Str := [("pot" : Str), ("power" : Str), ("values" : Str), ("due" : Str), ("told" : Str), ("late" : Str), ("small" : Str), ("place" : Str), ("one" : Str), ("row" : Str), ("at" : Str)]
def F24 : FnI := ⟨("_law_heads_right" : Str), [("pot" : Str)], [(1, [], [0])]⟩
def C24 : CC := ⟨N24, defScope st24, [("power" : Str), ("due" : Str), ("place" : Str)], [F0, F1, F2, F3, F4, F5, F6, F7, F8, F9, F10, F11, F12, F13, F14, F15, F16, F17, F18, F19, F20, F21, F22, F23], glb, []⟩
def ir24 : Sms := (.cons (.asg 1 (.call 1 (.cons (.var 0) (.cons (.cst (.int (21))) .nil)) .nil [0, 1]) false) (.cons (.asg 2 (.comp (.call 2 (.cons (.var 8) (.cons (.var 1) .nil)) .nil [0, 1]) (.nm 8) (.rng (.cons (.bin .add (.var 1) (.cst (.int (1)))) .nil)) .nil [8]) false) (.cons (.asg 3 (.comp (.idx (.var 9) (.cst (.int (0)))) (.nm 9) (.ex (.call 3 (.cons (.var 2) .nil) .nil [0])) .nil [9]) false) (.cons (.asg 4 (.call 13 (.cons (.var 1) .nil) .nil [0]) false) (.cons (.ite (.or_ (.cmp .ne (.reprL (.cons (.var 4) (.cons (.call 13 .nil (.cons (.var 1) .nil) [0]) .nil))) (.reprL (.cons (.var 3) (.cons (.var 3) .nil)))) (.or_ (.cmp .ne (.bi .len (.cons (.var 3) .nil)) (.bin .add (.var 1) (.cst (.int (1))))) (.cmp .ne (.idx (.var 3) (.cst (.int (0)))) (.bi .int (.cons (.cmp .eq (.var 1) (.cst (.int (0)))) .nil))))) (.cons (.ret (.cst (.bool false))) .nil) .nil) (.cons (.exp (.mut .append 4 (.cons (.cst .none) .nil))) (.cons (.ite (.cmp .ne (.bi .repr (.cons (.call 13 (.cons (.var 1) .nil) .nil [0]) .nil)) (.bi .repr (.cons (.var 3) .nil))) (.cons (.ret (.cst (.bool false))) .nil) .nil) (.cons (.ite (.cmp .lt (.var 1) (.cst (.int (20)))) (.cons (.asg 5 (.call 13 (.cons (.bin .add (.var 1) (.cst (.int (1)))) .nil) .nil [0]) false) (.cons (.ite (.cmp .ne (.var 5) (.bin .add (.lst (.cons (.cst (.int (0))) .nil)) (.comp (.bin .mul (.bin .add (.var 10) (.cst (.int (1)))) (.bin .add (.idx (.var 3) (.var 10)) (.ite (.cmp .lt (.bin .add (.var 10) (.cst (.int (1)))) (.bi .len (.cons (.var 3) .nil))) (.idx (.var 3) (.bin .add (.var 10) (.cst (.int (1))))) (.cst (.int (0)))))) (.nm 10) (.rng (.cons (.bin .add (.var 1) (.cst (.int (1)))) .nil)) .nil [10]))) (.cons (.ret (.cst (.bool false))) .nil) .nil) .nil)) .nil) (.cons (.asg 6 (.bi .all (.cons (.comp (.cmp .le (.bi .abs (.cons (.var 8) .nil)) (.bin .pow (.cst (.int (10))) (.cst (.int (12))))) (.nm 8) (.ex (.var 3)) .nil [8]) .nil)) false) (.cons (.asg 7 (.call 1 (.cons (.var 0) (.cons (.cst (.int (40))) .nil)) .nil [0, 1]) false) (.cons (.ite (.and_ (.var 6) (.cmp .ne (.call 18 (.cons (.var 3) (.cons (.var 7) .nil)) .nil [0, 1]) (.call 2 (.cons (.var 7) (.cons (.var 1) .nil)) .nil [0, 1]))) (.cons (.ret (.cst (.bool false))) .nil) .nil) (.cons (.ite (.and_ (.cmp .lt (.var 1) (.cst (.int (7)))) (.cmp .ne (.call 20 (.cons (.comp (.call 2 (.cons (.var 8) (.cons (.var 1) .nil)) .nil [0, 1]) (.nm 8) (.rng (.cons (.cst (.int (8))) .nil)) .nil [8]) .nil) .nil [0]) (.var 1))) (.cons (.ret (.cst (.bool false))) .nil) .nil) (.cons (.ret (.cmp .eq (.bi .sum (.cons (.comp (.bin .mul (.var 8) (.call 23 (.cons (.var 7) (.cons (.var 10) .nil)) .nil [0, 1])) (.tp (.cons (.nm 10) (.cons (.nm 8) .nil))) (.enum (.var 3)) .nil [10, 8]) .nil)) (.call 2 (.cons (.var 7) (.cons (.var 1) .nil)) .nil [0, 1]))) .nil)))))))))))))
theorem cs24 : cSs 60 C24 (defBody st24) = some ir24 := by kernel_rfl
theorem sc24 : FnScope N24 [("pot" : Str)] (defScope st24) := ⟨rfl, rfl, rfl, by decide +kernel, rfl, by decide +kernel, by decide +kernel⟩
/-! 25: sum_of_powers(power, number) names [power, number, at, one] -/
def st25 : Stmt := topS 37
def N25 : List Str := [("power" : Str), ("number" : Str), ("at" : Str), ("one" : Str)]
def F25 : FnI := ⟨("sum_of_powers" : Str), [("power" : Str), ("number" : Str)], [(2, [], [0, 1]), (0, [("number" : Str), ("power" : Str)], [1, 0])]⟩
def C25 : CC := ⟨N25, defScope st25, [("number" : Str)], [F0, F1, F2, F3, F4, F5, F6, F7, F8, F9, F10, F11, F12, F13, F14, F15, F16, F17, F18, F19, F20, F21, F22, F23, F24], glb, []⟩
def ir25 : Sms := (.cons (.exp (.call 6 (.cons (.var 0) .nil) .nil [0])) (.cons (.exp (.call 16 (.cons (.var 1) (.cons (.cst (.int (1000000))) .nil)) .nil [0, 1])) (.cons (.ret (.bi .sum (.cons (.comp (.bin .mul (.var 3) (.call 8 (.cons (.var 1) (.cons (.bin .add (.var 2) (.cst (.int (1)))) .nil)) .nil [0, 1])) (.tp (.cons (.nm 2) (.cons (.nm 3) .nil))) (.enum (.call 12 (.cons (.var 0) .nil) .nil [0])) .nil [2, 3]) .nil))) .nil)))
theorem cs25 : cSs 60 C25 (defBody st25) = some ir25 := by kernel_rfl
theorem sc25 : FnScope N25 [("power" : Str), ("number" : Str)] (defScope st25) := ⟨rfl, rfl, rfl, by decide +kernel, rfl, by decide +kernel, by decide +kernel⟩
/-! 26: difference_heads(numbers) names [numbers] -/
def st26 : Stmt := topS 33
def N26 : List Str := [("numbers" : Str)]
def F26 : FnI := ⟨("difference_heads" : Str), [("numbers" : Str)], [(1, [], [0])]⟩
def C26 : CC := ⟨N26, defScope st26, [], [F0, F1, F2, F3, F4, F5, F6, F7, F8, F9, F10, F11, F12, F13, F14, F15, F16, F17, F18, F19, F20, F21, F22, F23, F24, F25], glb, []⟩
def ir26 : Sms := (.cons (.exp (.call 15 (.cons (.var 0) .nil) .nil [0])) (.cons (.ret (.call 11 (.cons (.var 0) .nil) .nil [0])) .nil))
theorem cs26 : cSs 60 C26 (defBody st26) = some ir26 := by kernel_rfl
theorem sc26 : FnScope N26 [("numbers" : Str)] (defScope st26) := ⟨rfl, rfl, rfl, by decide +kernel, rfl, by decide +kernel, by decide +kernel⟩
/-! 27: _law_sums_right(pot) names [pot, power, number, due, far, last, half, one] -/
def st27 : Stmt := topS 54
def N27 : List Str := [("pot" : Str), ("power" : Str), ("number" : Str), ("due" : Str), ("far" : Str), ("last" : Str), ("half" : Str), ("one" : Str)]
def F27 : FnI := ⟨("_law_sums_right" : Str), [("pot" : Str)], [(1, [], [0])]⟩
def C27 : CC := ⟨N27, defScope st27, [("power" : Str)], [F0, F1, F2, F3, F4, F5, F6, F7, F8, F9, F10, F11, F12, F13, F14, F15, F16, F17, F18, F19, F20, F21, F22, F23, F24, F25, F26], glb, []⟩
def ir27 : Sms := (.cons (.par [1, 2] (.cons (.call 1 (.cons (.var 0) (.cons (.cst (.int (21))) .nil)) .nil [0, 1]) (.cons (.call 1 (.cons (.var 0) (.cons (.cst (.int (300))) .nil)) .nil [0, 1]) .nil))) (.cons (.asg 3 (.bi .sum (.cons (.comp (.call 2 (.cons (.var 7) (.cons (.var 1) .nil)) .nil [0, 1]) (.nm 7) (.rng (.cons (.var 2) .nil)) .nil [7]) .nil)) false) (.cons (.ite (.cmp .ne (.reprL (.cons (.call 25 (.cons (.var 1) (.cons (.var 2) .nil)) .nil [0, 1]) (.cons (.call 25 .nil (.cons (.var 2) (.cons (.var 1) .nil)) [1, 0]) .nil))) (.reprL (.cons (.var 3) (.cons (.var 3) .nil)))) (.cons (.ret (.cst (.bool false))) .nil) .nil) (.cons (.asg 4 (.call 1 (.cons (.var 0) (.cons (.bin .pow (.cst (.int (10))) (.cst (.int (6)))) .nil)) .nil [0, 1]) false) (.cons (.ite (.cmp .ne (.bin .sub (.call 25 (.cons (.var 1) (.cons (.bin .add (.var 4) (.cst (.int (1)))) .nil)) .nil [0, 1]) (.call 25 (.cons (.var 1) (.cons (.var 4) .nil)) .nil [0, 1])) (.call 2 (.cons (.var 4) (.cons (.var 1) .nil)) .nil [0, 1])) (.cons (.ret (.cst (.bool false))) .nil) .nil) (.cons (.asg 5 (.bi .max (.cons (.cst (.int (0))) (.cons (.bin .sub (.var 4) (.cst (.int (1)))) .nil))) false) (.cons (.asg 6 (.bin .fdiv (.bin .mul (.var 4) (.var 5)) (.cst (.int (2)))) false) (.cons (.ite (.cmp .ne (.lst (.cons (.call 25 (.cons (.cst (.int (0))) (.cons (.var 4) .nil)) .nil [0, 1]) (.cons (.call 25 (.cons (.cst (.int (1))) (.cons (.var 4) .nil)) .nil [0, 1]) (.cons (.bin .mul (.cst (.int (6))) (.call 25 (.cons (.cst (.int (2))) (.cons (.var 4) .nil)) .nil [0, 1])) (.cons (.call 25 (.cons (.cst (.int (3))) (.cons (.var 4) .nil)) .nil [0, 1]) .nil))))) (.lst (.cons (.var 4) (.cons (.var 6) (.cons (.bin .mul (.bin .mul (.cst (.int (2))) (.var 6)) (.bin .sub (.bin .mul (.cst (.int (2))) (.var 4)) (.cst (.int (1))))) (.cons (.bin .mul (.var 6) (.var 6)) .nil)))))) (.cons (.ret (.cst (.bool false))) .nil) .nil) (.cons (.ret (.and_ (.cmp .eq (.call 25 (.cons (.var 1) (.cons (.cst (.int (0))) .nil)) .nil [0, 1]) (.cst (.int (0)))) (.cmp .eq (.call 26 (.cons (.comp (.call 25 (.cons (.cst (.int (2))) (.cons (.var 7) .nil)) .nil [0, 1]) (.nm 7) (.rng (.cons (.cst (.int (6))) .nil)) .nil [7]) .nil) .nil [0]) (.lst (.cons (.cst (.int (0))) (.cons (.cst (.int (0))) (.cons (.cst (.int (1))) (.cons (.cst (.int (2))) (.cons (.cst (.int (0))) (.cons (.cst (.int (0))) .nil)))))))))) .nil)))))))))
theorem cs27 : cSs 60 C27 (defBody st27) = some ir27 := by kernel_rfl
theorem sc27 : FnScope N27 [("pot" : Str)] (defScope st27) := ⟨rfl, rfl, rfl, by decide +kernel, rfl, by decide +kernel, by decide +kernel⟩
/-! 28: law(script) names [script, k, pot] -/
def st28 : Stmt := topS 55
def N28 : List Str := [("script" : Str), ("k" : Str), ("pot" : Str)]
def F28 : FnI := ⟨("law" : Str), [("script" : Str)], []⟩
def C28 : CC := ⟨N28, defScope st28, [], [F0, F1, F2, F3, F4, F5, F6, F7, F8, F9, F10, F11, F12, F13, F14, F15, F16, F17, F18, F19, F20, F21, F22, F23, F24, F25, F26, F27], glb, []⟩
def ir28 : Sms := (.cons (.for_ (.nm 1) (.rng (.cons (.bi .max (.cons (.cst (.int (1))) (.cons (.bi .min (.cons (.cst (.int (3))) (.cons (.bi .len (.cons (.var 0) .nil)) .nil))) .nil))) .nil)) (.cons (.asg 2 (.call 0 (.cons (.var 0) (.cons (.var 1) .nil)) .nil [0, 1]) false) (.cons (.ite (.or_ (.not_ (.call 24 (.cons (.var 2) .nil) .nil [0])) (.not_ (.call 27 (.cons (.var 2) .nil) .nil [0]))) (.cons (.ret (.cst (.bool false))) .nil) .nil) .nil))) (.cons (.ret (.cst (.bool true))) .nil))
theorem cs28 : cSs 60 C28 (defBody st28) = some ir28 := by kernel_rfl
theorem sc28 : FnScope N28 [("script" : Str)] (defScope st28) := ⟨rfl, rfl, rfl, by decide +kernel, rfl, by decide +kernel, by decide +kernel⟩

end PdK97

namespace PdK97
open PySem PySem.Spec PyProof.Rows L2 Pd

def sgs : List Sig := [⟨false, (fPot 3037 11801)⟩, ⟨true, (fDraw 3041)⟩, ⟨false, fPower⟩, ⟨false, fRows⟩, ⟨false, fInt⟩, ⟨false, fWithin⟩, ⟨false, (fWant 0 20)⟩, ⟨false, fSigned⟩, ⟨false, fChoose⟩, ⟨false, fSummed⟩, ⟨false, fSums⟩, ⟨false, fBack⟩, ⟨false, fHeadsP⟩, ⟨false, fHeadsP⟩, ⟨false, fList⟩, ⟨false, fWantN⟩, ⟨false, fCount⟩, ⟨false, fByHeads⟩, ⟨false, fNumberBy⟩, ⟨false, fTold⟩, ⟨false, fDegree⟩, ⟨false, (fWant 0 200)⟩, ⟨false, (fWant 0 200)⟩, ⟨false, fChooseW⟩, ⟨true, (fHeadsRight 3041)⟩, ⟨false, fSumPow⟩, ⟨false, fDiffHeads⟩, ⟨true, (fSumsRight 3041)⟩, ⟨false, fLawD⟩]
def Γ : Tab := fun k => sgs[k]?
theorem do0 : Does (fPot 3037 11801) Γ false N0.length ir0 := does_pot (by decide) (by decide)
theorem le0 : ∀ ds z, (fPot 3037 11801) ds = some z → ds.length = F0.ps.length := fun ds z h => by
  unfold fPot at h
  split at h <;> first | rfl | cases h
theorem do1 : Does (fDraw 3041) Γ true N1.length ir1 := does_draw
theorem le1 : ∀ ds z, (fDraw 3041) ds = some z → ds.length = F1.ps.length := fun ds z h => by
  unfold fDraw at h
  split at h <;> first | rfl | cases h
theorem do2 : Does fPower Γ false N2.length ir2 := does_power
theorem le2 : ∀ ds z, fPower ds = some z → ds.length = F2.ps.length := fun ds z h => by
  unfold fPower at h
  split at h <;> first | rfl | cases h
theorem do3 : Does fRows Γ false N3.length ir3 := does_rows
theorem le3 : ∀ ds z, fRows ds = some z → ds.length = F3.ps.length := fun ds z h => by
  unfold fRows at h
  split at h <;> first | rfl | cases h
theorem do4 : Does fInt Γ false N4.length ir4 := does_int
theorem le4 : ∀ ds z, fInt ds = some z → ds.length = F4.ps.length := fun ds z h => by
  unfold fInt at h
  split at h <;> first | rfl | cases h
theorem do5 : Does fWithin Γ false N5.length ir5 := does_within (k := 4) rfl
theorem le5 : ∀ ds z, fWithin ds = some z → ds.length = F5.ps.length := fun ds z h => by
  unfold fWithin at h
  split at h <;> first | rfl | cases h
theorem do6 : Does (fWant 0 20) Γ false N6.length ir6 := does_want (k := 5) rfl
theorem le6 : ∀ ds z, (fWant 0 20) ds = some z → ds.length = F6.ps.length := fun ds z h => by
  unfold fWant at h
  split at h <;> first | rfl | cases h
theorem do7 : Does fSigned Γ false N7.length ir7 := does_signed
theorem le7 : ∀ ds z, fSigned ds = some z → ds.length = F7.ps.length := fun ds z h => by
  unfold fSigned at h
  split at h <;> first | rfl | cases h
theorem do8 : Does fChoose Γ false N8.length ir8 := does_choose
theorem le8 : ∀ ds z, fChoose ds = some z → ds.length = F8.ps.length := fun ds z h => by
  unfold fChoose at h
  split at h <;> first | rfl | cases h
theorem do9 : Does fSummed Γ false N9.length ir9 := does_summed (k := 8) rfl
theorem le9 : ∀ ds z, fSummed ds = some z → ds.length = F9.ps.length := fun ds z h => by
  unfold fSummed at h
  split at h <;> first | rfl | cases h
theorem do10 : Does fSums Γ false N10.length ir10 := does_sums (k := 9) rfl
theorem le10 : ∀ ds z, fSums ds = some z → ds.length = F10.ps.length := fun ds z h => by
  unfold fSums at h
  split at h <;> first | rfl | cases h
theorem do11 : Does fBack Γ false N11.length ir11 := does_back (s := 7) (u := 10) rfl rfl
theorem le11 : ∀ ds z, fBack ds = some z → ds.length = F11.ps.length := fun ds z h => by
  unfold fBack at h
  split at h <;> first | rfl | cases h
theorem do12 : Does fHeadsP Γ false N12.length ir12 := does_headsP (b := 11) rfl
theorem le12 : ∀ ds z, fHeadsP ds = some z → ds.length = F12.ps.length := fun ds z h => by
  unfold fHeadsP at h
  split at h <;> first | rfl | cases h
theorem do13 : Does fHeadsP Γ false N13.length ir13 := does_powerHeads (w := 6) (h := 12) rfl rfl
theorem le13 : ∀ ds z, fHeadsP ds = some z → ds.length = F13.ps.length := fun ds z h => by
  unfold fHeadsP at h
  split at h <;> first | rfl | cases h
theorem do14 : Does fList Γ false N14.length ir14 := does_list
theorem le14 : ∀ ds z, fList ds = some z → ds.length = F14.ps.length := fun ds z h => by
  unfold fList at h
  split at h <;> first | rfl | cases h
theorem do15 : Does fWantN Γ false N15.length ir15 := does_wantN (l := 14) (w := 5) rfl rfl
theorem le15 : ∀ ds z, fWantN ds = some z → ds.length = F15.ps.length := fun ds z h => by
  unfold fWantN at h
  split at h <;> first | rfl | cases h
theorem do16 : Does fCount Γ false N16.length ir16 := does_count (k := 5) rfl
theorem le16 : ∀ ds z, fCount ds = some z → ds.length = F16.ps.length := fun ds z h => by
  unfold fCount at h
  split at h <;> first | rfl | cases h
theorem do17 : Does fByHeads Γ false N17.length ir17 := does_byHeads (k := 8) rfl
theorem le17 : ∀ ds z, fByHeads ds = some z → ds.length = F17.ps.length := fun ds z h => by
  unfold fByHeads at h
  split at h <;> first | rfl | cases h
theorem do18 : Does fNumberBy Γ false N18.length ir18 := does_numberBy (w := 15) (c := 16) (b := 17) rfl rfl rfl
theorem le18 : ∀ ds z, fNumberBy ds = some z → ds.length = F18.ps.length := fun ds z h => by
  unfold fNumberBy at h
  split at h <;> first | rfl | cases h
theorem do19 : Does fTold Γ false N19.length ir19 := does_told (b := 11) rfl
theorem le19 : ∀ ds z, fTold ds = some z → ds.length = F19.ps.length := fun ds z h => by
  unfold fTold at h
  split at h <;> first | rfl | cases h
theorem do20 : Does fDegree Γ false N20.length ir20 := does_degree (w := 15) (t := 19) rfl rfl
theorem le20 : ∀ ds z, fDegree ds = some z → ds.length = F20.ps.length := fun ds z h => by
  unfold fDegree at h
  split at h <;> first | rfl | cases h
theorem do21 : Does (fWant 0 200) Γ false N21.length ir21 := does_want (k := 5) rfl
theorem le21 : ∀ ds z, (fWant 0 200) ds = some z → ds.length = F21.ps.length := fun ds z h => by
  unfold fWant at h
  split at h <;> first | rfl | cases h
theorem do22 : Does (fWant 0 200) Γ false N22.length ir22 := does_want (k := 5) rfl
theorem le22 : ∀ ds z, (fWant 0 200) ds = some z → ds.length = F22.ps.length := fun ds z h => by
  unfold fWant at h
  split at h <;> first | rfl | cases h
theorem do23 : Does fChooseW Γ false N23.length ir23 := does_chooseW (m := 21) (s := 22) (k := 8) rfl rfl rfl
theorem le23 : ∀ ds z, fChooseW ds = some z → ds.length = F23.ps.length := fun ds z h => by
  unfold fChooseW at h
  split at h <;> first | rfl | cases h
theorem do24 : Does (fHeadsRight 3041) Γ true N24.length ir24 := does_headsRight (dr := 1) (pw := 2) (rw' := 3) (ph := 13) (nb := 18) (dg := 20) (cw := 23) rfl rfl rfl rfl rfl rfl rfl
theorem le24 : ∀ ds z, (fHeadsRight 3041) ds = some z → ds.length = F24.ps.length := fun ds z h => by
  unfold fHeadsRight at h
  split at h <;> first | rfl | cases h
theorem do25 : Does fSumPow Γ false N25.length ir25 := does_sumPow (w := 6) (c := 16) (k := 8) (h := 12) rfl rfl rfl rfl
theorem le25 : ∀ ds z, fSumPow ds = some z → ds.length = F25.ps.length := fun ds z h => by
  unfold fSumPow at h
  split at h <;> first | rfl | cases h
theorem do26 : Does fDiffHeads Γ false N26.length ir26 := does_diffHeads (w := 15) (b := 11) rfl rfl
theorem le26 : ∀ ds z, fDiffHeads ds = some z → ds.length = F26.ps.length := fun ds z h => by
  unfold fDiffHeads at h
  split at h <;> first | rfl | cases h
theorem do27 : Does (fSumsRight 3041) Γ true N27.length ir27 := does_sumsRight (dr := 1) (pw := 2) (sp := 25) (dh := 26) rfl rfl rfl rfl
theorem le27 : ∀ ds z, (fSumsRight 3041) ds = some z → ds.length = F27.ps.length := fun ds z h => by
  unfold fSumsRight at h
  split at h <;> first | rfl | cases h
theorem do28 : Does fLawD Γ false N28.length ir28 := does_law97 (c1 := 3037) (c2 := 11801) (q := 3041) (pt := 0) (hr := 24) (sr := 27) rfl rfl rfl
theorem le28 : ∀ ds z, fLawD ds = some z → ds.length = F28.ps.length := fun ds z h => by
  unfold fLawD at h
  split at h <;> first | rfl | cases h
theorem all_mk {l : PySem.W.OpenLaw} {w : World} {K : PySem.W.Frag} {h : Heap} {mg : Str → Option Value} {fa : Addr} (X : K.In h) (G : h.Ns mainGlobals mg) (hfa : mg "law" = some (.ref fa))
    {f0 f1 f2 f3 f4 f5 f6 f7 f8 f9 f10 f11 f12 f13 f14 f15 f16 f17 f18 f19 f20 f21 f22 f23 f24 f25 f26 f27 f28 : Addr} {od0 an0 od1 an1 od2 an2 od3 an3 od4 an4 od5 an5 od6 an6 od7 an7 od8 an8 od9 an9 od10 an10 od11 an11 od12 an12 od13 an13 od14 an14 od15 an15 od16 an16 od17 an17 od18 an18 od19 an19 od20 an20 od21 an21 od22 an22 od23 an23 od24 an24 od25 an25 od26 an26 od27 an27 od28 an28 : Option Addr} {sl0 sl1 sl2 sl3 sl4 sl5 sl6 sl7 sl8 sl9 sl10 sl11 sl12 sl13 sl14 sl15 sl16 sl17 sl18 sl19 sl20 sl21 sl22 sl23 sl24 sl25 sl26 sl27 sl28 : Array (Option Value)} {oc0 kV0 dc0 pm0 cd0 ct0 oc1 kV1 dc1 pm1 cd1 ct1 oc2 kV2 dc2 pm2 cd2 ct2 oc3 kV3 dc3 pm3 cd3 ct3 oc4 kV4 dc4 pm4 cd4 ct4 oc5 kV5 dc5 pm5 cd5 ct5 oc6 kV6 dc6 pm6 cd6 ct6 oc7 kV7 dc7 pm7 cd7 ct7 oc8 kV8 dc8 pm8 cd8 ct8 oc9 kV9 dc9 pm9 cd9 ct9 oc10 kV10 dc10 pm10 cd10 ct10 oc11 kV11 dc11 pm11 cd11 ct11 oc12 kV12 dc12 pm12 cd12 ct12 oc13 kV13 dc13 pm13 cd13 ct13 oc14 kV14 dc14 pm14 cd14 ct14 oc15 kV15 dc15 pm15 cd15 ct15 oc16 kV16 dc16 pm16 cd16 ct16 oc17 kV17 dc17 pm17 cd17 ct17 oc18 kV18 dc18 pm18 cd18 ct18 oc19 kV19 dc19 pm19 cd19 ct19 oc20 kV20 dc20 pm20 cd20 ct20 oc21 kV21 dc21 pm21 cd21 ct21 oc22 kV22 dc22 pm22 cd22 ct22 oc23 kV23 dc23 pm23 cd23 ct23 oc24 kV24 dc24 pm24 cd24 ct24 oc25 kV25 dc25 pm25 cd25 ct25 oc26 kV26 dc26 pm26 cd26 ct26 oc27 kV27 dc27 pm27 cd27 ct27 oc28 kV28 dc28 pm28 cd28 ct28 : Value} {tk0 tk1 tk2 tk3 tk4 : Tok}
    (a0 : PySem.W.nsIn K mainGlobals "_law_pot" = some (some (.ref f0))) (l0 : K.lookup f0 = some ⟨oc0, od0, .func (PySem.W.fnOf "_law_pot" "_law_pot" (defArgs st0) (defBody st0) (defScope st0) .none kV0 dc0 pm0 an0 cd0 ct0), sl0⟩) (c0 : PySem.W.codeIn K cd0 "_law_pot" = true) (k0 : PySem.W.keepIn K (.ref f0) = true)
    (a1 : PySem.W.nsIn K mainGlobals "_law_draw" = some (some (.ref f1))) (l1 : K.lookup f1 = some ⟨oc1, od1, .func (PySem.W.fnOf "_law_draw" "_law_draw" (defArgs st1) (defBody st1) (defScope st1) .none kV1 dc1 pm1 an1 cd1 ct1), sl1⟩) (c1 : PySem.W.codeIn K cd1 "_law_draw" = true) (k1 : PySem.W.keepIn K (.ref f1) = true)
    (a2 : PySem.W.nsIn K mainGlobals "_law_power" = some (some (.ref f2))) (l2 : K.lookup f2 = some ⟨oc2, od2, .func (PySem.W.fnOf "_law_power" "_law_power" (defArgs st2) (defBody st2) (defScope st2) .none kV2 dc2 pm2 an2 cd2 ct2), sl2⟩) (c2 : PySem.W.codeIn K cd2 "_law_power" = true) (k2 : PySem.W.keepIn K (.ref f2) = true)
    (a3 : PySem.W.nsIn K mainGlobals "_law_rows" = some (some (.ref f3))) (l3 : K.lookup f3 = some ⟨oc3, od3, .func (PySem.W.fnOf "_law_rows" "_law_rows" (defArgs st3) (defBody st3) (defScope st3) .none kV3 dc3 pm3 an3 cd3 ct3), sl3⟩) (c3 : PySem.W.codeIn K cd3 "_law_rows" = true) (k3 : PySem.W.keepIn K (.ref f3) = true)
    (a4 : PySem.W.nsIn K mainGlobals "is_integer" = some (some (.ref f4))) (l4 : K.lookup f4 = some ⟨oc4, od4, .func (PySem.W.fnOf "is_integer" "is_integer" (defArgs st4) (defBody st4) (defScope st4) .none kV4 dc4 pm4 an4 cd4 ct4), sl4⟩) (c4 : PySem.W.codeIn K cd4 "is_integer" = true) (k4 : PySem.W.keepIn K (.ref f4) = true)
    (a5 : PySem.W.nsIn K mainGlobals "is_within" = some (some (.ref f5))) (l5 : K.lookup f5 = some ⟨oc5, od5, .func (PySem.W.fnOf "is_within" "is_within" (defArgs st5) (defBody st5) (defScope st5) .none kV5 dc5 pm5 an5 cd5 ct5), sl5⟩) (c5 : PySem.W.codeIn K cd5 "is_within" = true) (k5 : PySem.W.keepIn K (.ref f5) = true)
    (a6 : PySem.W.nsIn K mainGlobals "want_power" = some (some (.ref f6))) (l6 : K.lookup f6 = some ⟨oc6, od6, .func (PySem.W.fnOf "want_power" "want_power" (defArgs st6) (defBody st6) (defScope st6) .none kV6 dc6 pm6 an6 cd6 ct6), sl6⟩) (c6 : PySem.W.codeIn K cd6 "want_power" = true) (k6 : PySem.W.keepIn K (.ref f6) = true)
    (a7 : PySem.W.nsIn K mainGlobals "signed" = some (some (.ref f7))) (l7 : K.lookup f7 = some ⟨oc7, od7, .func (PySem.W.fnOf "signed" "signed" (defArgs st7) (defBody st7) (defScope st7) .none kV7 dc7 pm7 an7 cd7 ct7), sl7⟩) (c7 : PySem.W.codeIn K cd7 "signed" = true) (k7 : PySem.W.keepIn K (.ref f7) = true)
    (a8 : PySem.W.nsIn K mainGlobals "choose_of" = some (some (.ref f8))) (l8 : K.lookup f8 = some ⟨oc8, od8, .func (PySem.W.fnOf "choose_of" "choose_of" (defArgs st8) (defBody st8) (defScope st8) .none kV8 dc8 pm8 an8 cd8 ct8), sl8⟩) (c8 : PySem.W.codeIn K cd8 "choose_of" = true) (k8 : PySem.W.keepIn K (.ref f8) = true)
    (a9 : PySem.W.nsIn K mainGlobals "summed_at" = some (some (.ref f9))) (l9 : K.lookup f9 = some ⟨oc9, od9, .func (PySem.W.fnOf "summed_at" "summed_at" (defArgs st9) (defBody st9) (defScope st9) .none kV9 dc9 pm9 an9 cd9 ct9), sl9⟩) (c9 : PySem.W.codeIn K cd9 "summed_at" = true) (k9 : PySem.W.keepIn K (.ref f9) = true)
    (a10 : PySem.W.nsIn K mainGlobals "sums_of" = some (some (.ref f10))) (l10 : K.lookup f10 = some ⟨oc10, od10, .func (PySem.W.fnOf "sums_of" "sums_of" (defArgs st10) (defBody st10) (defScope st10) .none kV10 dc10 pm10 an10 cd10 ct10), sl10⟩) (c10 : PySem.W.codeIn K cd10 "sums_of" = true) (k10 : PySem.W.keepIn K (.ref f10) = true)
    (a11 : PySem.W.nsIn K mainGlobals "back_of" = some (some (.ref f11))) (l11 : K.lookup f11 = some ⟨oc11, od11, .func (PySem.W.fnOf "back_of" "back_of" (defArgs st11) (defBody st11) (defScope st11) .none kV11 dc11 pm11 an11 cd11 ct11), sl11⟩) (c11 : PySem.W.codeIn K cd11 "back_of" = true) (k11 : PySem.W.keepIn K (.ref f11) = true)
    (a12 : PySem.W.nsIn K mainGlobals "heads_of_power" = some (some (.ref f12))) (l12 : K.lookup f12 = some ⟨oc12, od12, .func (PySem.W.fnOf "heads_of_power" "heads_of_power" (defArgs st12) (defBody st12) (defScope st12) .none kV12 dc12 pm12 an12 cd12 ct12), sl12⟩) (c12 : PySem.W.codeIn K cd12 "heads_of_power" = true) (k12 : PySem.W.keepIn K (.ref f12) = true)
    (a13 : PySem.W.nsIn K mainGlobals "power_heads" = some (some (.ref f13))) (l13 : K.lookup f13 = some ⟨oc13, od13, .func (PySem.W.fnOf "power_heads" "power_heads" (defArgs st13) (defBody st13) (defScope st13) .none kV13 dc13 pm13 an13 cd13 ct13), sl13⟩) (c13 : PySem.W.codeIn K cd13 "power_heads" = true) (k13 : PySem.W.keepIn K (.ref f13) = true)
    (a14 : PySem.W.nsIn K mainGlobals "is_list" = some (some (.ref f14))) (l14 : K.lookup f14 = some ⟨oc14, od14, .func (PySem.W.fnOf "is_list" "is_list" (defArgs st14) (defBody st14) (defScope st14) .none kV14 dc14 pm14 an14 cd14 ct14), sl14⟩) (c14 : PySem.W.codeIn K cd14 "is_list" = true) (k14 : PySem.W.keepIn K (.ref f14) = true)
    (a15 : PySem.W.nsIn K mainGlobals "want_numbers" = some (some (.ref f15))) (l15 : K.lookup f15 = some ⟨oc15, od15, .func (PySem.W.fnOf "want_numbers" "want_numbers" (defArgs st15) (defBody st15) (defScope st15) .none kV15 dc15 pm15 an15 cd15 ct15), sl15⟩) (c15 : PySem.W.codeIn K cd15 "want_numbers" = true) (k15 : PySem.W.keepIn K (.ref f15) = true)
    (a16 : PySem.W.nsIn K mainGlobals "want_count" = some (some (.ref f16))) (l16 : K.lookup f16 = some ⟨oc16, od16, .func (PySem.W.fnOf "want_count" "want_count" (defArgs st16) (defBody st16) (defScope st16) .none kV16 dc16 pm16 an16 cd16 ct16), sl16⟩) (c16 : PySem.W.codeIn K cd16 "want_count" = true) (k16 : PySem.W.keepIn K (.ref f16) = true)
    (a17 : PySem.W.nsIn K mainGlobals "by_heads" = some (some (.ref f17))) (l17 : K.lookup f17 = some ⟨oc17, od17, .func (PySem.W.fnOf "by_heads" "by_heads" (defArgs st17) (defBody st17) (defScope st17) .none kV17 dc17 pm17 an17 cd17 ct17), sl17⟩) (c17 : PySem.W.codeIn K cd17 "by_heads" = true) (k17 : PySem.W.keepIn K (.ref f17) = true)
    (a18 : PySem.W.nsIn K mainGlobals "number_by" = some (some (.ref f18))) (l18 : K.lookup f18 = some ⟨oc18, od18, .func (PySem.W.fnOf "number_by" "number_by" (defArgs st18) (defBody st18) (defScope st18) .none kV18 dc18 pm18 an18 cd18 ct18), sl18⟩) (c18 : PySem.W.codeIn K cd18 "number_by" = true) (k18 : PySem.W.keepIn K (.ref f18) = true)
    (a19 : PySem.W.nsIn K mainGlobals "told_heads" = some (some (.ref f19))) (l19 : K.lookup f19 = some ⟨oc19, od19, .func (PySem.W.fnOf "told_heads" "told_heads" (defArgs st19) (defBody st19) (defScope st19) .none kV19 dc19 pm19 an19 cd19 ct19), sl19⟩) (c19 : PySem.W.codeIn K cd19 "told_heads" = true) (k19 : PySem.W.keepIn K (.ref f19) = true)
    (a20 : PySem.W.nsIn K mainGlobals "heads_degree" = some (some (.ref f20))) (l20 : K.lookup f20 = some ⟨oc20, od20, .func (PySem.W.fnOf "heads_degree" "heads_degree" (defArgs st20) (defBody st20) (defScope st20) .none kV20 dc20 pm20 an20 cd20 ct20), sl20⟩) (c20 : PySem.W.codeIn K cd20 "heads_degree" = true) (k20 : PySem.W.keepIn K (.ref f20) = true)
    (a21 : PySem.W.nsIn K mainGlobals "want_many" = some (some (.ref f21))) (l21 : K.lookup f21 = some ⟨oc21, od21, .func (PySem.W.fnOf "want_many" "want_many" (defArgs st21) (defBody st21) (defScope st21) .none kV21 dc21 pm21 an21 cd21 ct21), sl21⟩) (c21 : PySem.W.codeIn K cd21 "want_many" = true) (k21 : PySem.W.keepIn K (.ref f21) = true)
    (a22 : PySem.W.nsIn K mainGlobals "want_some" = some (some (.ref f22))) (l22 : K.lookup f22 = some ⟨oc22, od22, .func (PySem.W.fnOf "want_some" "want_some" (defArgs st22) (defBody st22) (defScope st22) .none kV22 dc22 pm22 an22 cd22 ct22), sl22⟩) (c22 : PySem.W.codeIn K cd22 "want_some" = true) (k22 : PySem.W.keepIn K (.ref f22) = true)
    (a23 : PySem.W.nsIn K mainGlobals "choose" = some (some (.ref f23))) (l23 : K.lookup f23 = some ⟨oc23, od23, .func (PySem.W.fnOf "choose" "choose" (defArgs st23) (defBody st23) (defScope st23) .none kV23 dc23 pm23 an23 cd23 ct23), sl23⟩) (c23 : PySem.W.codeIn K cd23 "choose" = true) (k23 : PySem.W.keepIn K (.ref f23) = true)
    (a24 : PySem.W.nsIn K mainGlobals "_law_heads_right" = some (some (.ref f24))) (l24 : K.lookup f24 = some ⟨oc24, od24, .func (PySem.W.fnOf "_law_heads_right" "_law_heads_right" (defArgs st24) (defBody st24) (defScope st24) .none kV24 dc24 pm24 an24 cd24 ct24), sl24⟩) (c24 : PySem.W.codeIn K cd24 "_law_heads_right" = true) (k24 : PySem.W.keepIn K (.ref f24) = true)
    (a25 : PySem.W.nsIn K mainGlobals "sum_of_powers" = some (some (.ref f25))) (l25 : K.lookup f25 = some ⟨oc25, od25, .func (PySem.W.fnOf "sum_of_powers" "sum_of_powers" (defArgs st25) (defBody st25) (defScope st25) .none kV25 dc25 pm25 an25 cd25 ct25), sl25⟩) (c25 : PySem.W.codeIn K cd25 "sum_of_powers" = true) (k25 : PySem.W.keepIn K (.ref f25) = true)
    (a26 : PySem.W.nsIn K mainGlobals "difference_heads" = some (some (.ref f26))) (l26 : K.lookup f26 = some ⟨oc26, od26, .func (PySem.W.fnOf "difference_heads" "difference_heads" (defArgs st26) (defBody st26) (defScope st26) .none kV26 dc26 pm26 an26 cd26 ct26), sl26⟩) (c26 : PySem.W.codeIn K cd26 "difference_heads" = true) (k26 : PySem.W.keepIn K (.ref f26) = true)
    (a27 : PySem.W.nsIn K mainGlobals "_law_sums_right" = some (some (.ref f27))) (l27 : K.lookup f27 = some ⟨oc27, od27, .func (PySem.W.fnOf "_law_sums_right" "_law_sums_right" (defArgs st27) (defBody st27) (defScope st27) .none kV27 dc27 pm27 an27 cd27 ct27), sl27⟩) (c27 : PySem.W.codeIn K cd27 "_law_sums_right" = true) (k27 : PySem.W.keepIn K (.ref f27) = true)
    (a28 : PySem.W.nsIn K mainGlobals "law" = some (some (.ref f28))) (l28 : K.lookup f28 = some ⟨oc28, od28, .func (PySem.W.fnOf "law" "law" (defArgs st28) (defBody st28) (defScope st28) .none kV28 dc28 pm28 an28 cd28 ct28), sl28⟩) (c28 : PySem.W.codeIn K cd28 "law" = true) (k28 : PySem.W.keepIn K (.ref f28) = true)
    (z0 : PySem.W.nsIn K mainGlobals "len" = some none)
    (z1 : PySem.W.nsIn K mainGlobals "sum" = some none)
    (z2 : PySem.W.nsIn K mainGlobals "max" = some none)
    (z3 : PySem.W.nsIn K mainGlobals "min" = some none)
    (z4 : PySem.W.nsIn K mainGlobals "abs" = some none)
    (z5 : PySem.W.nsIn K mainGlobals "int" = some none)
    (z6 : PySem.W.nsIn K mainGlobals "list" = some none)
    (z7 : PySem.W.nsIn K mainGlobals "tuple" = some none)
    (z8 : PySem.W.nsIn K mainGlobals "all" = some none)
    (z9 : PySem.W.nsIn K mainGlobals "any" = some none)
    (z10 : PySem.W.nsIn K mainGlobals "sorted" = some none)
    (z11 : PySem.W.nsIn K mainGlobals "divmod" = some none)
    (z12 : PySem.W.nsIn K mainGlobals "repr" = some none)
    (z13 : PySem.W.nsIn K mainGlobals "isinstance" = some none)
    (z14 : PySem.W.nsIn K mainGlobals "bool" = some none)
    (z15 : PySem.W.nsIn K mainGlobals "str" = some none)
    (z16 : PySem.W.nsIn K mainGlobals "dict" = some none)
    (z17 : PySem.W.nsIn K mainGlobals "range" = some none)
    (z18 : PySem.W.nsIn K mainGlobals "enumerate" = some none)
    (z19 : PySem.W.nsIn K mainGlobals "zip" = some none)
    (g0 : PySem.W.nsIn K mainGlobals "MOST_MANY" = some (some (.int 200 tk0)))
    (g1 : PySem.W.nsIn K mainGlobals "MOST_NUMBERS" = some (some (.int 60 tk1)))
    (g2 : PySem.W.nsIn K mainGlobals "MOST_SIZE" = some (some (.int 1000000000000 tk2)))
    (g3 : PySem.W.nsIn K mainGlobals "MOST_POWER" = some (some (.int 20 tk3)))
    (g4 : PySem.W.nsIn K mainGlobals "MOST_SUMMED" = some (some (.int 1000000 tk4)))
    : ∃ fd : FuncData, (∀ (z : Shared) (y : Value), BindsTo z fd ⟨[y], []⟩ [("script", y)]) ∧ ∀ bs : Heap, K.In bs → bs.Ns mainGlobals mg → FnD l.prog w K mg bs 29 fa fd ["script"] (spD K ⟨false, fLawD⟩) := by
  have e := hfa.symm.trans (PySem.W.mg_of X G a28)
  cases e
  have bi : ∀ x ∈ bNames, mg x = none := fun x hx => by
    simp only [bNames, List.mem_cons, List.not_mem_nil, or_false] at hx
    rcases hx with rfl | rfl | rfl | rfl | rfl | rfl | rfl | rfl | rfl | rfl | rfl | rfl | rfl | rfl | rfl | rfl | rfl | rfl | rfl | rfl
    · exact PySem.W.mg_none_of X G z0
    · exact PySem.W.mg_none_of X G z1
    · exact PySem.W.mg_none_of X G z2
    · exact PySem.W.mg_none_of X G z3
    · exact PySem.W.mg_none_of X G z4
    · exact PySem.W.mg_none_of X G z5
    · exact PySem.W.mg_none_of X G z6
    · exact PySem.W.mg_none_of X G z7
    · exact PySem.W.mg_none_of X G z8
    · exact PySem.W.mg_none_of X G z9
    · exact PySem.W.mg_none_of X G z10
    · exact PySem.W.mg_none_of X G z11
    · exact PySem.W.mg_none_of X G z12
    · exact PySem.W.mg_none_of X G z13
    · exact PySem.W.mg_none_of X G z14
    · exact PySem.W.mg_none_of X G z15
    · exact PySem.W.mg_none_of X G z16
    · exact PySem.W.mg_none_of X G z17
    · exact PySem.W.mg_none_of X G z18
    · exact PySem.W.mg_none_of X G z19
  have gl : GAll K mg glb := ⟨⟨.int 200, _, PySem.W.mg_of X G g0, ⟨_, rfl⟩, fun _ => .int _⟩, ⟨.int 60, _, PySem.W.mg_of X G g1, ⟨_, rfl⟩, fun _ => .int _⟩, ⟨.int 1000000000000, _, PySem.W.mg_of X G g2, ⟨_, rfl⟩, fun _ => .int _⟩, ⟨.int 20, _, PySem.W.mg_of X G g3, ⟨_, rfl⟩, fun _ => .int _⟩, ⟨.int 1000000, _, PySem.W.mg_of X G g4, ⟨_, rfl⟩, fun _ => .int _⟩, trivial⟩
  have U0 := fun_mk (st := st0) l0 c0 k0
  have B0 : BAll K (PySem.W.fnOf "_law_pot" "_law_pot" (defArgs st0) (defBody st0) (defScope st0) .none kV0 dc0 pm0 an0 cd0 ct0) F0.ps F0.shapes := ⟨bindsD_mk U0 fun _ _ _ _ _ _ us ws hu hw => match us, ws, hu, hw with | [_, _], [], _, _ => rfl, trivial⟩
  have U1 := fun_mk (st := st1) l1 c1 k1
  have B1 : BAll K (PySem.W.fnOf "_law_draw" "_law_draw" (defArgs st1) (defBody st1) (defScope st1) .none kV1 dc1 pm1 an1 cd1 ct1) F1.ps F1.shapes := ⟨bindsD_mk U1 fun _ _ _ _ _ _ us ws hu hw => match us, ws, hu, hw with | [_, _], [], _, _ => rfl, trivial⟩
  have U2 := fun_mk (st := st2) l2 c2 k2
  have B2 : BAll K (PySem.W.fnOf "_law_power" "_law_power" (defArgs st2) (defBody st2) (defScope st2) .none kV2 dc2 pm2 an2 cd2 ct2) F2.ps F2.shapes := ⟨bindsD_mk U2 fun _ _ _ _ _ _ us ws hu hw => match us, ws, hu, hw with | [_, _], [], _, _ => rfl, trivial⟩
  have U3 := fun_mk (st := st3) l3 c3 k3
  have B3 : BAll K (PySem.W.fnOf "_law_rows" "_law_rows" (defArgs st3) (defBody st3) (defScope st3) .none kV3 dc3 pm3 an3 cd3 ct3) F3.ps F3.shapes := ⟨bindsD_mk U3 fun _ _ _ _ _ _ us ws hu hw => match us, ws, hu, hw with | [_], [], _, _ => rfl, trivial⟩
  have U4 := fun_mk (st := st4) l4 c4 k4
  have B4 : BAll K (PySem.W.fnOf "is_integer" "is_integer" (defArgs st4) (defBody st4) (defScope st4) .none kV4 dc4 pm4 an4 cd4 ct4) F4.ps F4.shapes := ⟨bindsD_mk U4 fun _ _ _ _ _ _ us ws hu hw => match us, ws, hu, hw with | [_], [], _, _ => rfl, trivial⟩
  have U5 := fun_mk (st := st5) l5 c5 k5
  have B5 : BAll K (PySem.W.fnOf "is_within" "is_within" (defArgs st5) (defBody st5) (defScope st5) .none kV5 dc5 pm5 an5 cd5 ct5) F5.ps F5.shapes := ⟨bindsD_mk U5 fun _ _ _ _ _ _ us ws hu hw => match us, ws, hu, hw with | [_, _, _], [], _, _ => rfl, trivial⟩
  have U6 := fun_mk (st := st6) l6 c6 k6
  have B6 : BAll K (PySem.W.fnOf "want_power" "want_power" (defArgs st6) (defBody st6) (defScope st6) .none kV6 dc6 pm6 an6 cd6 ct6) F6.ps F6.shapes := ⟨bindsD_mk U6 fun _ _ _ _ _ _ us ws hu hw => match us, ws, hu, hw with | [_], [], _, _ => rfl, trivial⟩
  have U7 := fun_mk (st := st7) l7 c7 k7
  have B7 : BAll K (PySem.W.fnOf "signed" "signed" (defArgs st7) (defBody st7) (defScope st7) .none kV7 dc7 pm7 an7 cd7 ct7) F7.ps F7.shapes := ⟨bindsD_mk U7 fun _ _ _ _ _ _ us ws hu hw => match us, ws, hu, hw with | [_], [], _, _ => rfl, trivial⟩
  have U8 := fun_mk (st := st8) l8 c8 k8
  have B8 : BAll K (PySem.W.fnOf "choose_of" "choose_of" (defArgs st8) (defBody st8) (defScope st8) .none kV8 dc8 pm8 an8 cd8 ct8) F8.ps F8.shapes := ⟨bindsD_mk U8 fun _ _ _ _ _ _ us ws hu hw => match us, ws, hu, hw with | [_, _], [], _, _ => rfl, trivial⟩
  have U9 := fun_mk (st := st9) l9 c9 k9
  have B9 : BAll K (PySem.W.fnOf "summed_at" "summed_at" (defArgs st9) (defBody st9) (defScope st9) .none kV9 dc9 pm9 an9 cd9 ct9) F9.ps F9.shapes := ⟨bindsD_mk U9 fun _ _ _ _ _ _ us ws hu hw => match us, ws, hu, hw with | [_, _], [], _, _ => rfl, trivial⟩
  have U10 := fun_mk (st := st10) l10 c10 k10
  have B10 : BAll K (PySem.W.fnOf "sums_of" "sums_of" (defArgs st10) (defBody st10) (defScope st10) .none kV10 dc10 pm10 an10 cd10 ct10) F10.ps F10.shapes := ⟨bindsD_mk U10 fun _ _ _ _ _ _ us ws hu hw => match us, ws, hu, hw with | [_], [], _, _ => rfl, trivial⟩
  have U11 := fun_mk (st := st11) l11 c11 k11
  have B11 : BAll K (PySem.W.fnOf "back_of" "back_of" (defArgs st11) (defBody st11) (defScope st11) .none kV11 dc11 pm11 an11 cd11 ct11) F11.ps F11.shapes := ⟨bindsD_mk U11 fun _ _ _ _ _ _ us ws hu hw => match us, ws, hu, hw with | [_], [], _, _ => rfl, trivial⟩
  have U12 := fun_mk (st := st12) l12 c12 k12
  have B12 : BAll K (PySem.W.fnOf "heads_of_power" "heads_of_power" (defArgs st12) (defBody st12) (defScope st12) .none kV12 dc12 pm12 an12 cd12 ct12) F12.ps F12.shapes := ⟨bindsD_mk U12 fun _ _ _ _ _ _ us ws hu hw => match us, ws, hu, hw with | [_], [], _, _ => rfl, trivial⟩
  have U13 := fun_mk (st := st13) l13 c13 k13
  have B13 : BAll K (PySem.W.fnOf "power_heads" "power_heads" (defArgs st13) (defBody st13) (defScope st13) .none kV13 dc13 pm13 an13 cd13 ct13) F13.ps F13.shapes := ⟨bindsD_mk U13 fun _ _ _ _ _ _ us ws hu hw => match us, ws, hu, hw with | [_], [], _, _ => rfl, bindsD_mk U13 fun _ _ _ _ _ _ us ws hu hw => match us, ws, hu, hw with | [], [_], _, _ => rfl, trivial⟩
  have U14 := fun_mk (st := st14) l14 c14 k14
  have B14 : BAll K (PySem.W.fnOf "is_list" "is_list" (defArgs st14) (defBody st14) (defScope st14) .none kV14 dc14 pm14 an14 cd14 ct14) F14.ps F14.shapes := ⟨bindsD_mk U14 fun _ _ _ _ _ _ us ws hu hw => match us, ws, hu, hw with | [_], [], _, _ => rfl, trivial⟩
  have U15 := fun_mk (st := st15) l15 c15 k15
  have B15 : BAll K (PySem.W.fnOf "want_numbers" "want_numbers" (defArgs st15) (defBody st15) (defScope st15) .none kV15 dc15 pm15 an15 cd15 ct15) F15.ps F15.shapes := ⟨bindsD_mk U15 fun _ _ _ _ _ _ us ws hu hw => match us, ws, hu, hw with | [_], [], _, _ => rfl, trivial⟩
  have U16 := fun_mk (st := st16) l16 c16 k16
  have B16 : BAll K (PySem.W.fnOf "want_count" "want_count" (defArgs st16) (defBody st16) (defScope st16) .none kV16 dc16 pm16 an16 cd16 ct16) F16.ps F16.shapes := ⟨bindsD_mk U16 fun _ _ _ _ _ _ us ws hu hw => match us, ws, hu, hw with | [_, _], [], _, _ => rfl, trivial⟩
  have U17 := fun_mk (st := st17) l17 c17 k17
  have B17 : BAll K (PySem.W.fnOf "by_heads" "by_heads" (defArgs st17) (defBody st17) (defScope st17) .none kV17 dc17 pm17 an17 cd17 ct17) F17.ps F17.shapes := ⟨bindsD_mk U17 fun _ _ _ _ _ _ us ws hu hw => match us, ws, hu, hw with | [_, _], [], _, _ => rfl, trivial⟩
  have U18 := fun_mk (st := st18) l18 c18 k18
  have B18 : BAll K (PySem.W.fnOf "number_by" "number_by" (defArgs st18) (defBody st18) (defScope st18) .none kV18 dc18 pm18 an18 cd18 ct18) F18.ps F18.shapes := ⟨bindsD_mk U18 fun _ _ _ _ _ _ us ws hu hw => match us, ws, hu, hw with | [_, _], [], _, _ => rfl, trivial⟩
  have U19 := fun_mk (st := st19) l19 c19 k19
  have B19 : BAll K (PySem.W.fnOf "told_heads" "told_heads" (defArgs st19) (defBody st19) (defScope st19) .none kV19 dc19 pm19 an19 cd19 ct19) F19.ps F19.shapes := ⟨bindsD_mk U19 fun _ _ _ _ _ _ us ws hu hw => match us, ws, hu, hw with | [_], [], _, _ => rfl, trivial⟩
  have U20 := fun_mk (st := st20) l20 c20 k20
  have B20 : BAll K (PySem.W.fnOf "heads_degree" "heads_degree" (defArgs st20) (defBody st20) (defScope st20) .none kV20 dc20 pm20 an20 cd20 ct20) F20.ps F20.shapes := ⟨bindsD_mk U20 fun _ _ _ _ _ _ us ws hu hw => match us, ws, hu, hw with | [_], [], _, _ => rfl, trivial⟩
  have U21 := fun_mk (st := st21) l21 c21 k21
  have B21 : BAll K (PySem.W.fnOf "want_many" "want_many" (defArgs st21) (defBody st21) (defScope st21) .none kV21 dc21 pm21 an21 cd21 ct21) F21.ps F21.shapes := ⟨bindsD_mk U21 fun _ _ _ _ _ _ us ws hu hw => match us, ws, hu, hw with | [_], [], _, _ => rfl, trivial⟩
  have U22 := fun_mk (st := st22) l22 c22 k22
  have B22 : BAll K (PySem.W.fnOf "want_some" "want_some" (defArgs st22) (defBody st22) (defScope st22) .none kV22 dc22 pm22 an22 cd22 ct22) F22.ps F22.shapes := ⟨bindsD_mk U22 fun _ _ _ _ _ _ us ws hu hw => match us, ws, hu, hw with | [_], [], _, _ => rfl, trivial⟩
  have U23 := fun_mk (st := st23) l23 c23 k23
  have B23 : BAll K (PySem.W.fnOf "choose" "choose" (defArgs st23) (defBody st23) (defScope st23) .none kV23 dc23 pm23 an23 cd23 ct23) F23.ps F23.shapes := ⟨bindsD_mk U23 fun _ _ _ _ _ _ us ws hu hw => match us, ws, hu, hw with | [_, _], [], _, _ => rfl, trivial⟩
  have U24 := fun_mk (st := st24) l24 c24 k24
  have B24 : BAll K (PySem.W.fnOf "_law_heads_right" "_law_heads_right" (defArgs st24) (defBody st24) (defScope st24) .none kV24 dc24 pm24 an24 cd24 ct24) F24.ps F24.shapes := ⟨bindsD_mk U24 fun _ _ _ _ _ _ us ws hu hw => match us, ws, hu, hw with | [_], [], _, _ => rfl, trivial⟩
  have U25 := fun_mk (st := st25) l25 c25 k25
  have B25 : BAll K (PySem.W.fnOf "sum_of_powers" "sum_of_powers" (defArgs st25) (defBody st25) (defScope st25) .none kV25 dc25 pm25 an25 cd25 ct25) F25.ps F25.shapes := ⟨bindsD_mk U25 fun _ _ _ _ _ _ us ws hu hw => match us, ws, hu, hw with | [_, _], [], _, _ => rfl, bindsD_mk U25 fun _ _ _ _ _ _ us ws hu hw => match us, ws, hu, hw with | [], [_, _], _, _ => rfl, trivial⟩
  have U26 := fun_mk (st := st26) l26 c26 k26
  have B26 : BAll K (PySem.W.fnOf "difference_heads" "difference_heads" (defArgs st26) (defBody st26) (defScope st26) .none kV26 dc26 pm26 an26 cd26 ct26) F26.ps F26.shapes := ⟨bindsD_mk U26 fun _ _ _ _ _ _ us ws hu hw => match us, ws, hu, hw with | [_], [], _, _ => rfl, trivial⟩
  have U27 := fun_mk (st := st27) l27 c27 k27
  have B27 : BAll K (PySem.W.fnOf "_law_sums_right" "_law_sums_right" (defArgs st27) (defBody st27) (defScope st27) .none kV27 dc27 pm27 an27 cd27 ct27) F27.ps F27.shapes := ⟨bindsD_mk U27 fun _ _ _ _ _ _ us ws hu hw => match us, ws, hu, hw with | [_], [], _, _ => rfl, trivial⟩
  have U28 := fun_mk (st := st28) l28 c28 k28
  have B28 : BAll K (PySem.W.fnOf "law" "law" (defArgs st28) (defBody st28) (defScope st28) .none kV28 dc28 pm28 an28 cd28 ct28) F28.ps F28.shapes := trivial
  refine ⟨PySem.W.fnOf "law" "law" (defArgs st28) (defBody st28) (defScope st28) .none kV28 dc28 pm28 an28 cd28 ct28, fun z y => .of_eq rfl, fun bs _ _ => ?_⟩
  have G0 : GI l.prog w K mg bs Γ 0 C0.fns C0.glb := GI.start bi gl
  have G1 : GI l.prog w K mg bs Γ 1 C1.fns C1.glb := (GI.step (g := F0) G0 U0 sc0 rfl cs0 do0 le0 rfl (PySem.W.mg_of X G a0) B0).2
  have G2 : GI l.prog w K mg bs Γ 2 C2.fns C2.glb := (GI.step (g := F1) G1 U1 sc1 rfl cs1 do1 le1 rfl (PySem.W.mg_of X G a1) B1).2
  have G3 : GI l.prog w K mg bs Γ 3 C3.fns C3.glb := (GI.step (g := F2) G2 U2 sc2 rfl cs2 do2 le2 rfl (PySem.W.mg_of X G a2) B2).2
  have G4 : GI l.prog w K mg bs Γ 4 C4.fns C4.glb := (GI.step (g := F3) G3 U3 sc3 rfl cs3 do3 le3 rfl (PySem.W.mg_of X G a3) B3).2
  have G5 : GI l.prog w K mg bs Γ 5 C5.fns C5.glb := (GI.step (g := F4) G4 U4 sc4 rfl cs4 do4 le4 rfl (PySem.W.mg_of X G a4) B4).2
  have G6 : GI l.prog w K mg bs Γ 6 C6.fns C6.glb := (GI.step (g := F5) G5 U5 sc5 rfl cs5 do5 le5 rfl (PySem.W.mg_of X G a5) B5).2
  have G7 : GI l.prog w K mg bs Γ 7 C7.fns C7.glb := (GI.step (g := F6) G6 U6 sc6 rfl cs6 do6 le6 rfl (PySem.W.mg_of X G a6) B6).2
  have G8 : GI l.prog w K mg bs Γ 8 C8.fns C8.glb := (GI.step (g := F7) G7 U7 sc7 rfl cs7 do7 le7 rfl (PySem.W.mg_of X G a7) B7).2
  have G9 : GI l.prog w K mg bs Γ 9 C9.fns C9.glb := (GI.step (g := F8) G8 U8 sc8 rfl cs8 do8 le8 rfl (PySem.W.mg_of X G a8) B8).2
  have G10 : GI l.prog w K mg bs Γ 10 C10.fns C10.glb := (GI.step (g := F9) G9 U9 sc9 rfl cs9 do9 le9 rfl (PySem.W.mg_of X G a9) B9).2
  have G11 : GI l.prog w K mg bs Γ 11 C11.fns C11.glb := (GI.step (g := F10) G10 U10 sc10 rfl cs10 do10 le10 rfl (PySem.W.mg_of X G a10) B10).2
  have G12 : GI l.prog w K mg bs Γ 12 C12.fns C12.glb := (GI.step (g := F11) G11 U11 sc11 rfl cs11 do11 le11 rfl (PySem.W.mg_of X G a11) B11).2
  have G13 : GI l.prog w K mg bs Γ 13 C13.fns C13.glb := (GI.step (g := F12) G12 U12 sc12 rfl cs12 do12 le12 rfl (PySem.W.mg_of X G a12) B12).2
  have G14 : GI l.prog w K mg bs Γ 14 C14.fns C14.glb := (GI.step (g := F13) G13 U13 sc13 rfl cs13 do13 le13 rfl (PySem.W.mg_of X G a13) B13).2
  have G15 : GI l.prog w K mg bs Γ 15 C15.fns C15.glb := (GI.step (g := F14) G14 U14 sc14 rfl cs14 do14 le14 rfl (PySem.W.mg_of X G a14) B14).2
  have G16 : GI l.prog w K mg bs Γ 16 C16.fns C16.glb := (GI.step (g := F15) G15 U15 sc15 rfl cs15 do15 le15 rfl (PySem.W.mg_of X G a15) B15).2
  have G17 : GI l.prog w K mg bs Γ 17 C17.fns C17.glb := (GI.step (g := F16) G16 U16 sc16 rfl cs16 do16 le16 rfl (PySem.W.mg_of X G a16) B16).2
  have G18 : GI l.prog w K mg bs Γ 18 C18.fns C18.glb := (GI.step (g := F17) G17 U17 sc17 rfl cs17 do17 le17 rfl (PySem.W.mg_of X G a17) B17).2
  have G19 : GI l.prog w K mg bs Γ 19 C19.fns C19.glb := (GI.step (g := F18) G18 U18 sc18 rfl cs18 do18 le18 rfl (PySem.W.mg_of X G a18) B18).2
  have G20 : GI l.prog w K mg bs Γ 20 C20.fns C20.glb := (GI.step (g := F19) G19 U19 sc19 rfl cs19 do19 le19 rfl (PySem.W.mg_of X G a19) B19).2
  have G21 : GI l.prog w K mg bs Γ 21 C21.fns C21.glb := (GI.step (g := F20) G20 U20 sc20 rfl cs20 do20 le20 rfl (PySem.W.mg_of X G a20) B20).2
  have G22 : GI l.prog w K mg bs Γ 22 C22.fns C22.glb := (GI.step (g := F21) G21 U21 sc21 rfl cs21 do21 le21 rfl (PySem.W.mg_of X G a21) B21).2
  have G23 : GI l.prog w K mg bs Γ 23 C23.fns C23.glb := (GI.step (g := F22) G22 U22 sc22 rfl cs22 do22 le22 rfl (PySem.W.mg_of X G a22) B22).2
  have G24 : GI l.prog w K mg bs Γ 24 C24.fns C24.glb := (GI.step (g := F23) G23 U23 sc23 rfl cs23 do23 le23 rfl (PySem.W.mg_of X G a23) B23).2
  have G25 : GI l.prog w K mg bs Γ 25 C25.fns C25.glb := (GI.step (g := F24) G24 U24 sc24 rfl cs24 do24 le24 rfl (PySem.W.mg_of X G a24) B24).2
  have G26 : GI l.prog w K mg bs Γ 26 C26.fns C26.glb := (GI.step (g := F25) G25 U25 sc25 rfl cs25 do25 le25 rfl (PySem.W.mg_of X G a25) B25).2
  have G27 : GI l.prog w K mg bs Γ 27 C27.fns C27.glb := (GI.step (g := F26) G26 U26 sc26 rfl cs26 do26 le26 rfl (PySem.W.mg_of X G a26) B26).2
  have G28 : GI l.prog w K mg bs Γ 28 C28.fns C28.glb := (GI.step (g := F27) G27 U27 sc27 rfl cs27 do27 le27 rfl (PySem.W.mg_of X G a27) B27).2
  exact (GI.step (g := F28) G28 U28 sc28 rfl cs28 do28 le28 rfl (PySem.W.mg_of X G a28) B28).1
end PdK97

open PySem PySem.W PyProof.Rows
set_option maxHeartbeats 0 in
theorem PySem.Challenge.cw_twowaycounts_k97_whole_powers_told_and_s_holds : PySem.Challenge.rw_twowaycounts_k97_whole_powers_told_and_s.Holds := by
  w_on; o_law; k_head; (case hw => w_witness2)
  k_fill
  refine Pd.walkD (l := PySem.Challenge.rw_twowaycounts_k97_whole_powers_told_and_s) (n := 63) (lv := 29) (nm := "script") (g := ⟨false, Pd.fLawD⟩) rfl (by decide) rfl ⟨rfl, by decide, by decide⟩ rfl (fun w h Y => PySem.W.kIn_of Y) ?F rfl (fun ns hl => Pd.run_law hl)
  case F =>
    intro w gl fa h KX G hgl
    refine' PdK97.all_mk KX G hgl ?a0 ?l0 ?c0 ?k0 ?a1 ?l1 ?c1 ?k1 ?a2 ?l2 ?c2 ?k2 ?a3 ?l3 ?c3 ?k3 ?a4 ?l4 ?c4 ?k4 ?a5 ?l5 ?c5 ?k5 ?a6 ?l6 ?c6 ?k6 ?a7 ?l7 ?c7 ?k7 ?a8 ?l8 ?c8 ?k8 ?a9 ?l9 ?c9 ?k9 ?a10 ?l10 ?c10 ?k10 ?a11 ?l11 ?c11 ?k11 ?a12 ?l12 ?c12 ?k12 ?a13 ?l13 ?c13 ?k13 ?a14 ?l14 ?c14 ?k14 ?a15 ?l15 ?c15 ?k15 ?a16 ?l16 ?c16 ?k16 ?a17 ?l17 ?c17 ?k17 ?a18 ?l18 ?c18 ?k18 ?a19 ?l19 ?c19 ?k19 ?a20 ?l20 ?c20 ?k20 ?a21 ?l21 ?c21 ?k21 ?a22 ?l22 ?c22 ?k22 ?a23 ?l23 ?c23 ?k23 ?a24 ?l24 ?c24 ?k24 ?a25 ?l25 ?c25 ?k25 ?a26 ?l26 ?c26 ?k26 ?a27 ?l27 ?c27 ?k27 ?a28 ?l28 ?c28 ?k28 ?z0 ?z1 ?z2 ?z3 ?z4 ?z5 ?z6 ?z7 ?z8 ?z9 ?z10 ?z11 ?z12 ?z13 ?z14 ?z15 ?z16 ?z17 ?z18 ?z19 ?gc0 ?gc1 ?gc2 ?gc3 ?gc4
    (case a0 => k_is); (case l0 => k_is); (case c0 => k_is); (case k0 => k_is); (case a1 => k_is); (case l1 => k_is); (case c1 => k_is); (case k1 => k_is); (case a2 => k_is); (case l2 => k_is); (case c2 => k_is); (case k2 => k_is); (case a3 => k_is); (case l3 => k_is); (case c3 => k_is); (case k3 => k_is); (case a4 => k_is); (case l4 => k_is); (case c4 => k_is); (case k4 => k_is); (case a5 => k_is); (case l5 => k_is); (case c5 => k_is); (case k5 => k_is); (case a6 => k_is); (case l6 => k_is); (case c6 => k_is); (case k6 => k_is); (case a7 => k_is); (case l7 => k_is); (case c7 => k_is); (case k7 => k_is); (case a8 => k_is); (case l8 => k_is); (case c8 => k_is); (case k8 => k_is); (case a9 => k_is); (case l9 => k_is); (case c9 => k_is); (case k9 => k_is); (case a10 => k_is); (case l10 => k_is); (case c10 => k_is); (case k10 => k_is); (case a11 => k_is); (case l11 => k_is); (case c11 => k_is); (case k11 => k_is); (case a12 => k_is); (case l12 => k_is); (case c12 => k_is); (case k12 => k_is); (case a13 => k_is); (case l13 => k_is); (case c13 => k_is); (case k13 => k_is); (case a14 => k_is); (case l14 => k_is); (case c14 => k_is); (case k14 => k_is); (case a15 => k_is); (case l15 => k_is); (case c15 => k_is); (case k15 => k_is); (case a16 => k_is); (case l16 => k_is); (case c16 => k_is); (case k16 => k_is); (case a17 => k_is); (case l17 => k_is); (case c17 => k_is); (case k17 => k_is); (case a18 => k_is); (case l18 => k_is); (case c18 => k_is); (case k18 => k_is); (case a19 => k_is); (case l19 => k_is); (case c19 => k_is); (case k19 => k_is); (case a20 => k_is); (case l20 => k_is); (case c20 => k_is); (case k20 => k_is); (case a21 => k_is); (case l21 => k_is); (case c21 => k_is); (case k21 => k_is); (case a22 => k_is); (case l22 => k_is); (case c22 => k_is); (case k22 => k_is); (case a23 => k_is); (case l23 => k_is); (case c23 => k_is); (case k23 => k_is); (case a24 => k_is); (case l24 => k_is); (case c24 => k_is); (case k24 => k_is); (case a25 => k_is); (case l25 => k_is); (case c25 => k_is); (case k25 => k_is); (case a26 => k_is); (case l26 => k_is); (case c26 => k_is); (case k26 => k_is); (case a27 => k_is); (case l27 => k_is); (case c27 => k_is); (case k27 => k_is); (case a28 => k_is); (case l28 => k_is); (case c28 => k_is); (case k28 => k_is); (case z0 => k_is); (case z1 => k_is); (case z2 => k_is); (case z3 => k_is); (case z4 => k_is); (case z5 => k_is); (case z6 => k_is); (case z7 => k_is); (case z8 => k_is); (case z9 => k_is); (case z10 => k_is); (case z11 => k_is); (case z12 => k_is); (case z13 => k_is); (case z14 => k_is); (case z15 => k_is); (case z16 => k_is); (case z17 => k_is); (case z18 => k_is); (case z19 => k_is); (case gc0 => k_is); (case gc1 => k_is); (case gc2 => k_is); (case gc3 => k_is); (case gc4 => k_is)

