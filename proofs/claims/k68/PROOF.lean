import PyProof.Rows.All
import Wide.All
import OpenK.AllK
import Wide.FinOn
import HandS.ForMost
import HandS.Deep
import HandS.Style
import HandS.TupAny
import HandS.Zip
import HandS.Wide
import HandS.WideBits
import HandS.IsInst
import HandS.Conv
import HandS.SortInts
import KE.SortData
import KE.DataFind
import KE.KTupSum
import PyProof.ReprRoads
import PyProof.ReprLen
import PyProof.StrLawsRepr
import PyProof.EqAt
import HandS.SetFor
import KE.GoesEnum
import KE.KDictZip
import HandS.ListItems
import PySem.Challenge.RW_twowaycounts_k68_whole_sums_over_lots
set_option Elab.async false
set_option linter.all false
set_option maxRecDepth 100000
/-! values as data over a heap: what a frame knows -/
namespace Pd
open PySem PySem.Spec PyProof.Rows L2

/-- the script, as data -/
def scrD (ns : List Int) : PyData := .dict [(.none, .list (ns.map PyData.int))]

mutual
inductive Rp (K : PySem.W.Frag) (G : Hp) : V → PyData → Prop
  | non : Rp K G .non .none
  | bl (b : Bool) : Rp K G (.bl b) (.bool b)
  | int (i : Int) : Rp K G (.int i) (.int i)
  | str (x : Str) : Rp K G (.str x) (.str x)
  | lst {a : Addr} {xs : List V} {ds : List PyData} : G a = some (.lst xs) → RpAll K G xs ds → Rp K G (.ref a) (.list ds)
  | tup {a : Addr} {xs : List V} {ds : List PyData} : G a = some (.tup xs) → RpAll K G xs ds → Rp K G (.ref a) (.tuple ds)
  | scr {a : Addr} {ns : List Int} : SqL K G a (ns.map V.int) → Rp K G (.ref a) (scrD ns)
inductive RpAll (K : PySem.W.Frag) (G : Hp) : List V → List PyData → Prop
  | nil : RpAll K G [] []
  | cons {v : V} {vs : List V} {d : PyData} {ds : List PyData} : Rp K G v d → RpAll K G vs ds → RpAll K G (v :: vs) (d :: ds)
end

section
variable {K : PySem.W.Frag} {G G' H : Hp}
mutual
theorem Rp.mono (e : Same G G') : ∀ {v : V} {d : PyData}, Rp K G v d → Rp K G' v d
  | _, _, .non => .non
  | _, _, .bl b => .bl b
  | _, _, .int i => .int i
  | _, _, .str x => .str x
  | _, _, .lst h r => .lst (e _ _ h) (RpAll.mono e r)
  | _, _, .tup h r => .tup (e _ _ h) (RpAll.mono e r)
  | _, _, .scr h => .scr (e.seq h)
theorem RpAll.mono (e : Same G G') : ∀ {vs : List V} {ds : List PyData}, RpAll K G vs ds → RpAll K G' vs ds
  | _, _, .nil => .nil
  | _, _, .cons h r => .cons (Rp.mono e h) (RpAll.mono e r)
end

theorem RpAll.len : ∀ {vs : List V} {ds : List PyData}, RpAll K G vs ds → vs.length = ds.length
  | _, _, .nil => rfl
  | _, _, .cons _ r => by simp [RpAll.len r]
theorem RpAll.app : ∀ {vs us : List V} {ds es : List PyData}, RpAll K G vs ds → RpAll K G us es → RpAll K G (vs ++ us) (ds ++ es)
  | _, _, _, _, .nil, s => s
  | _, _, _, _, .cons h r, s => .cons h (RpAll.app r s)
theorem RpAll.take : ∀ {vs : List V} {ds : List PyData} (n : Nat), RpAll K G vs ds → RpAll K G (vs.take n) (ds.take n)
  | _, _, 0, _ => by simpa using RpAll.nil
  | _, _, _ + 1, .nil => .nil
  | _, _, n + 1, .cons h r => .cons h (RpAll.take n r)
theorem RpAll.drop : ∀ {vs : List V} {ds : List PyData} (n : Nat), RpAll K G vs ds → RpAll K G (vs.drop n) (ds.drop n)
  | _, _, 0, r => r
  | _, _, _ + 1, .nil => .nil
  | _, _, n + 1, .cons _ r => RpAll.drop n r
theorem RpAll.rev : ∀ {vs : List V} {ds : List PyData}, RpAll K G vs ds → RpAll K G vs.reverse ds.reverse
  | _, _, .nil => .nil
  | _, _, .cons h r => by
    rw [List.reverse_cons, List.reverse_cons]
    exact RpAll.app (RpAll.rev r) (.cons h .nil)
theorem RpAll.set {v : V} {d : PyData} (h : Rp K G v d) : ∀ {vs : List V} {ds : List PyData} (i : Nat), RpAll K G vs ds → RpAll K G (vs.set i v) (ds.set i d)
  | _, _, _, .nil => .nil
  | _, _, 0, .cons _ r => .cons h r
  | _, _, i + 1, .cons q r => .cons q (RpAll.set h i r)
theorem RpAll.erase : ∀ {vs : List V} {ds : List PyData} (i : Nat), RpAll K G vs ds → RpAll K G (vs.eraseIdx i) (ds.eraseIdx i)
  | _, _, _, .nil => .nil
  | _, _, 0, .cons _ r => r
  | _, _, i + 1, .cons q r => .cons q (RpAll.erase i r)
theorem RpAll.rep {vs : List V} {ds : List PyData} (h : RpAll K G vs ds) : ∀ k : Nat, RpAll K G (List.replicate k vs).flatten (List.replicate k ds).flatten
  | 0 => .nil
  | k + 1 => by
    rw [List.replicate_succ, List.replicate_succ, List.flatten_cons, List.flatten_cons]
    exact h.app (RpAll.rep h k)
theorem RpAll.get : ∀ {vs : List V} {ds : List PyData} {i : Nat} {d : PyData}, RpAll K G vs ds → ds[i]? = some d → ∃ v, vs[i]? = some v ∧ Rp K G v d
  | _, _, _, _, .nil, e => by simp at e
  | _, _, 0, _, .cons h _, e => by
    simp at e
    subst e
    exact ⟨_, rfl, h⟩
  | _, _, i + 1, _, .cons _ r, e => by
    obtain ⟨v, e1, h⟩ := RpAll.get (i := i) r (by simpa using e)
    exact ⟨v, by simpa using e1, h⟩
theorem RpAll.getV : ∀ {vs : List V} {ds : List PyData} {i : Nat} {v : V}, RpAll K G vs ds → vs[i]? = some v → ∃ d, ds[i]? = some d ∧ Rp K G v d
  | _, _, _, _, .nil, e => by simp at e
  | _, _, 0, _, .cons h _, e => by
    simp at e
    subst e
    exact ⟨_, rfl, h⟩
  | _, _, i + 1, _, .cons _ r, e => by
    obtain ⟨v, e1, h⟩ := RpAll.getV (i := i) r (by simpa using e)
    exact ⟨v, by simpa using e1, h⟩
theorem RpAll.ints : ∀ {vs : List V} {ns : List Int}, RpAll K G vs (ns.map PyData.int) → vs = ns.map V.int
  | [], [], _ => rfl
  | [], _ :: _, h => by cases h
  | _ :: _, [], h => by cases h
  | v :: vs, n :: ns, h => by
    cases h with
    | cons h r =>
      cases h
      rw [List.map_cons, RpAll.ints r]
theorem RpAll.ofInts : ∀ (ns : List Int), RpAll K G (ns.map V.int) (ns.map PyData.int)
  | [] => .nil
  | n :: ns => .cons (.int n) (RpAll.ofInts ns)
theorem RpAll.bools : ∀ {vs : List V} {bs : List Bool}, RpAll K G vs (bs.map PyData.bool) → vs = bs.map V.bl
  | [], [], _ => rfl
  | [], _ :: _, h => by cases h
  | _ :: _, [], h => by cases h
  | v :: vs, n :: ns, h => by
    cases h with
    | cons h r =>
      cases h
      rw [List.map_cons, RpAll.bools r]

mutual
/-- no dict within -/
theorem Rp.dp : ∀ {v : V} (d : PyData), d.canLay0 = true → Rp K G v d → Dp K G v d
  | _, .none, _, h => by cases h; exact .non
  | _, .bool b, _, h => by cases h; exact .bl b
  | _, .int i, _, h => by cases h; exact .int i
  | _, .str x, _, h => by cases h; exact .str x
  | _, .list ds, c, h => by
    cases h with
    | lst e r => exact .lst (SqL.of e) (RpAll.dp ds (by simpa [PyData.canLay0] using c) r)
  | _, .tuple ds, c, h => by
    cases h with
    | tup e r => exact .tup (SqT.of e) (RpAll.dp ds (by simpa [PyData.canLay0] using c) r)
  | _, .dict _, c, _ => by simp [PyData.canLay0] at c
theorem RpAll.dp : ∀ {vs : List V} (ds : List PyData), PyData.canLayAll0 ds = true → RpAll K G vs ds → DpAll K G vs ds
  | _, [], _, h => by cases h; exact .nil
  | _, d :: ds, c, h => by
    cases h with
    | cons h r =>
      have c' : d.canLay0 = true ∧ PyData.canLayAll0 ds = true := by simpa [PyData.canLayAll0] using c
      exact .cons (Rp.dp d c'.1 h) (RpAll.dp ds c'.2 r)
end
end

/-! ### what a frame knows: its names, values on their way -/
inductive Cell where
  | no | va (d : PyData) | ow (ds : List PyData) | io (ds : List PyData)
inductive Opd where
  | va (d : PyData) | ow (ds : List PyData) | sl (i : Nat)
abbrev EnvD := List Cell
abbrev Tmp := List (Opd × V)

def CellR (K : PySem.W.Frag) (G H : Hp) : Cell → Option (Option V) → Prop
  | .no, _ => True
  | .va d, o => ∃ v, o = some (some v) ∧ Rp K G v d
  | .ow ds, o => ∃ a xs, o = some (some (.ref a)) ∧ H a = some (.lst xs) ∧ RpAll K G xs ds
  | .io ds, o => ∃ a xs, o = some (some (.ref a)) ∧ H a = some (.lst xs) ∧ RpAll K G xs ds
def OpdR (K : PySem.W.Frag) (G H : Hp) (σ : L2.St) : Opd → V → Prop
  | .va d, v => Rp K G v d
  | .ow ds, v => ∃ a xs, v = .ref a ∧ H a = some (.lst xs) ∧ RpAll K G xs ds
  | .sl i, v => σ[i]? = some (some v)
def OwnS (env : EnvD) (σ : L2.St) (i : Nat) (a : Addr) : Prop := (∃ ds, env[i]? = some (.ow ds) ∨ env[i]? = some (.io ds)) ∧ σ[i]? = some (some (.ref a))
def ownT : Tmp → List Addr
  | [] => []
  | (.ow _, .ref a) :: t => a :: ownT t
  | _ :: t => ownT t
theorem ownT_va {d : PyData} {v : V} {t : Tmp} : ownT ((.va d, v) :: t) = ownT t := by cases v <;> rfl
theorem ownT_sl {i : Nat} {v : V} {t : Tmp} : ownT ((.sl i, v) :: t) = ownT t := by cases v <;> rfl
theorem ownT_ow {ds : List PyData} {a : Addr} {t : Tmp} : ownT ((.ow ds, .ref a) :: t) = a :: ownT t := rfl
theorem ownT_sub {p : Opd × V} {t : Tmp} : ∀ a, a ∈ ownT t → a ∈ ownT (p :: t) := fun a h => by
  obtain ⟨o, v⟩ := p
  cases o <;> cases v <;> first | exact h | exact List.mem_cons_of_mem _ h

def own1 : Opd × V → Option Addr
  | (.ow _, .ref a) => some a
  | _ => none
theorem ownT_eq : ∀ t : Tmp, ownT t = t.filterMap own1
  | [] => rfl
  | (.ow ds, .ref a) :: t => by
    rw [ownT_ow, ownT_eq t]
    rfl
  | (.va d, v) :: t => by
    rw [ownT_va, ownT_eq t]
    rfl
  | (.sl i, v) :: t => by
    rw [ownT_sl, ownT_eq t]
    rfl
  | (.ow ds, .non) :: t => by show ownT t = _; rw [ownT_eq t]; rfl
  | (.ow ds, .bl _) :: t => by show ownT t = _; rw [ownT_eq t]; rfl
  | (.ow ds, .int _) :: t => by show ownT t = _; rw [ownT_eq t]; rfl
  | (.ow ds, .str _) :: t => by show ownT t = _; rw [ownT_eq t]; rfl
  | (.ow ds, .byt _) :: t => by show ownT t = _; rw [ownT_eq t]; rfl
  | (.ow ds, .flt _) :: t => by show ownT t = _; rw [ownT_eq t]; rfl
  | (.ow ds, .ty _) :: t => by show ownT t = _; rw [ownT_eq t]; rfl
/-- what the frame's end has to leave as it was; the place of the list that it may change -/
structure RR where
  h : Hp
  io : Option Addr
structure SR (K : PySem.W.Frag) (R : RR) (G0 G H : Hp) (env : EnvD) (σ : L2.St) (tmp : Tmp) : Prop where
  gh : Same G H
  rh : Same R.h H
  g0 : Same G0 G
  gr : ∀ b, G b ≠ none → G0 b ≠ none ∨ R.h b = none
  len : env.length = σ.length
  slot : ∀ (i : Nat) c, env[i]? = some c → CellR K G H c σ[i]?
  free : ∀ (i : Nat) a, OwnS env σ i a → G a = none ∧ R.h a = none
  apart : ∀ (i j : Nat) a, OwnS env σ i a → OwnS env σ j a → i = j
  tm : ∀ p ∈ tmp, OpdR K G H σ p.1 p.2
  freeT : ∀ a, a ∈ ownT tmp → G a = none ∧ R.h a = none
  nd : (ownT tmp).Nodup
  cross : ∀ (i : Nat) a, OwnS env σ i a → a ∉ ownT tmp
  iod : ∀ (i : Nat) ds, env[i]? = some (.io ds) → ∃ a, R.io = some a ∧ σ[i]? = some (some (.ref a))

section
variable {K : PySem.W.Frag} {R : RR} {G0 G G' H H' : Hp} {env : EnvD} {σ : L2.St} {tmp : Tmp} {p : Addr} {v : V} {d : PyData} {ds : List PyData} {xs : List V}

theorem same_new {o : HO} (h : H p = none) : Same H (upd H p o) := fun b x e => by
  rw [upd_ne (ne_of_none e h)]
  exact e
theorem same_none (e : Same H H') (h : H' p = none) : H p = none := e.free h
theorem CellR.keep {c : Cell} {o : Option (Option V)} (h : CellR K G H c o) (eg : Same G G') (eh : ∀ a xs, (∃ ds, c = .ow ds ∨ c = .io ds) → o = some (some (.ref a)) → H a = some (.lst xs) → H' a = some (.lst xs)) : CellR K G' H' c o := by
  cases c with
  | no => trivial
  | va d =>
    obtain ⟨v, e, r⟩ := h
    exact ⟨v, e, r.mono eg⟩
  | ow ds =>
    obtain ⟨a, xs, e, e2, r⟩ := h
    exact ⟨a, xs, e, eh a xs ⟨ds, .inl rfl⟩ e e2, r.mono eg⟩
  | io ds =>
    obtain ⟨a, xs, e, e2, r⟩ := h
    exact ⟨a, xs, e, eh a xs ⟨ds, .inr rfl⟩ e e2, r.mono eg⟩
theorem OpdR.keep {o : Opd} (h : OpdR K G H σ o v) (eg : Same G G') (eh : ∀ a xs, (∃ ds, o = .ow ds) → v = .ref a → H a = some (.lst xs) → H' a = some (.lst xs)) : OpdR K G' H' σ o v := by
  cases o with
  | va d => exact Rp.mono eg h
  | ow ds =>
    obtain ⟨a, xs, e, e2, r⟩ := h
    exact ⟨a, xs, e, eh a xs ⟨ds, rfl⟩ e e2, r.mono eg⟩
  | sl i => exact h

/-- the heap grows by what no one knows -/
theorem SR.grow (S : SR K R G0 G H env σ tmp) (e : Same H H') : SR K R G0 G H' env σ tmp :=
  ⟨S.gh.trans e, S.rh.trans e, S.g0, S.gr, S.len, fun i c h => (S.slot i c h).keep (Same.refl _) fun a xs _ _ h => e a _ h, S.free, S.apart,
    fun q hq => (S.tm q hq).keep (Same.refl _) fun a xs _ _ h => e a _ h, S.freeT, S.nd, S.cross, S.iod⟩
theorem SR.pushVa (S : SR K R G0 G H env σ tmp) (h : Rp K G v d) : SR K R G0 G H env σ ((.va d, v) :: tmp) :=
  ⟨S.gh, S.rh, S.g0, S.gr, S.len, S.slot, S.free, S.apart, fun q hq => by
    rcases List.mem_cons.mp hq with e | e
    · subst e
      exact h
    · exact S.tm q e, by rw [ownT_va]; exact S.freeT, by rw [ownT_va]; exact S.nd, by rw [ownT_va]; exact S.cross, S.iod⟩
theorem SR.pushSl {i : Nat} (S : SR K R G0 G H env σ tmp) (h : σ[i]? = some (some v)) : SR K R G0 G H env σ ((.sl i, v) :: tmp) :=
  ⟨S.gh, S.rh, S.g0, S.gr, S.len, S.slot, S.free, S.apart, fun q hq => by
    rcases List.mem_cons.mp hq with e | e
    · subst e
      exact h
    · exact S.tm q e, by rw [ownT_sl]; exact S.freeT, by rw [ownT_sl]; exact S.nd, by rw [ownT_sl]; exact S.cross, S.iod⟩
theorem SR.pop {q : Opd × V} (S : SR K R G0 G H env σ (q :: tmp)) : SR K R G0 G H env σ tmp :=
  ⟨S.gh, S.rh, S.g0, S.gr, S.len, S.slot, S.free, S.apart, fun q hq => S.tm q (List.mem_cons_of_mem _ hq), fun a h => S.freeT a (ownT_sub a h), by
    have h := S.nd
    obtain ⟨o, v⟩ := q
    cases o <;> cases v <;> first | exact h | exact (List.nodup_cons.mp h).2, fun i a h z => S.cross i a h (ownT_sub a z), S.iod⟩
theorem SR.sub {tmp' : Tmp} (S : SR K R G0 G H env σ tmp) (h : tmp'.Sublist tmp) : SR K R G0 G H env σ tmp' := by
  have hs : (ownT tmp').Sublist (ownT tmp) := by
    rw [ownT_eq, ownT_eq]
    exact h.filterMap _
  exact ⟨S.gh, S.rh, S.g0, S.gr, S.len, S.slot, S.free, S.apart, fun q hq => S.tm q (h.subset hq), fun a ha => S.freeT a (hs.subset ha), S.nd.sublist hs, fun i a hi z => S.cross i a hi (hs.subset z), S.iod⟩
theorem SR.perm {tmp' : Tmp} (S : SR K R G0 G H env σ tmp) (h : tmp.Perm tmp') : SR K R G0 G H env σ tmp' := by
  have hs : (ownT tmp).Perm (ownT tmp') := by
    rw [ownT_eq, ownT_eq]
    exact h.filterMap _
  exact ⟨S.gh, S.rh, S.g0, S.gr, S.len, S.slot, S.free, S.apart, fun q hq => S.tm q (h.mem_iff.mpr hq), fun a ha => S.freeT a (hs.mem_iff.mpr ha), hs.nodup_iff.mp S.nd, fun i a hi z => S.cross i a hi (hs.mem_iff.mpr z), S.iod⟩
theorem SR.ownH (S : SR K R G0 G H env σ tmp) {i : Nat} {a : Addr} (h : OwnS env σ i a) : ∃ xs, H a = some (.lst xs) := by
  obtain ⟨⟨ds, e⟩, e2⟩ := h
  rcases e with e | e
  · obtain ⟨b, xs, e3, e4, _⟩ := S.slot i _ e
    rw [e2] at e3
    cases e3
    exact ⟨xs, e4⟩
  · obtain ⟨b, xs, e3, e4, _⟩ := S.slot i _ e
    rw [e2] at e3
    cases e3
    exact ⟨xs, e4⟩
theorem ownT_mem {t : Tmp} : ∀ {a : Addr}, a ∈ ownT t → ∃ ds, (Opd.ow ds, V.ref a) ∈ t := by
  induction t with
  | nil => intro a h; cases h
  | cons q t ih =>
    intro a h
    obtain ⟨o, v⟩ := q
    have tl : a ∈ ownT t → ∃ ds, (Opd.ow ds, V.ref a) ∈ (o, v) :: t := fun z => by
      obtain ⟨ds, hm⟩ := ih z
      exact ⟨ds, List.mem_cons_of_mem _ hm⟩
    cases o with
    | va d => exact tl (by rw [ownT_va] at h; exact h)
    | sl i => exact tl (by rw [ownT_sl] at h; exact h)
    | ow ds =>
      cases v with
      | ref b =>
        rw [ownT_ow] at h
        rcases List.mem_cons.mp h with e | e
        · subst e
          exact ⟨ds, List.mem_cons_self⟩
        · exact tl e
      | _ => exact tl h
theorem SR.ownTH (S : SR K R G0 G H env σ tmp) {a : Addr} (h : a ∈ ownT tmp) : ∃ xs, H a = some (.lst xs) := by
  obtain ⟨ds, hm⟩ := ownT_mem h
  obtain ⟨b, xs, e, e2, _⟩ := S.tm _ hm
  cases e
  exact ⟨xs, e2⟩
/-- a new list, one's own -/
theorem SR.newL (S : SR K R G0 G H env σ tmp) (hp : H p = none) (h : RpAll K G xs ds) : SR K R G0 G (upd H p (.lst xs)) env σ ((.ow ds, .ref p) :: tmp) := by
  have e : Same H (upd H p (.lst xs)) := same_new hp
  have S' := S.grow e
  have np : p ∉ ownT tmp := fun z => by
    obtain ⟨ys, e2⟩ := S.ownTH z
    rw [hp] at e2
    cases e2
  refine ⟨S'.gh, S'.rh, S'.g0, S'.gr, S'.len, S'.slot, S'.free, S'.apart, fun q hq => ?_, fun a ha => ?_, ?_, fun i a hi ha => ?_, S'.iod⟩
  · rcases List.mem_cons.mp hq with z | z
    · subst z
      exact ⟨p, xs, rfl, upd_same, h⟩
    · exact S'.tm q z
  · rw [ownT_ow] at ha
    rcases List.mem_cons.mp ha with z | z
    · subst z
      exact ⟨S.gh.free hp, S.rh.free hp⟩
    · exact S'.freeT a z
  · rw [ownT_ow]
    exact List.nodup_cons.mpr ⟨np, S.nd⟩
  · rw [ownT_ow] at ha
    rcases List.mem_cons.mp ha with z | z
    · subst z
      obtain ⟨ys, e2⟩ := S.ownH hi
      rw [hp] at e2
      cases e2
    · exact S'.cross i a hi z
/-- G grows by an address that H holds so, that is nobody's own -/
theorem SR.gup {o : HO} (S : SR K R G0 G H env σ tmp) (hH : H p = some o) (hG : G p = none) (hR : R.h p = none) (h1 : ∀ i, ¬ OwnS env σ i p) (h2 : p ∉ ownT tmp) : SR K R G0 (upd G p o) H env σ tmp ∧ Same G (upd G p o) := by
  have e : Same G (upd G p o) := same_new hG
  refine ⟨⟨fun b u z => ?_, S.rh, S.g0.trans e, fun b hb => ?_, S.len, fun i c h => (S.slot i c h).keep e fun _ _ _ _ z => z, fun i a hi => ?_, S.apart, fun q hq => (S.tm q hq).keep e fun _ _ _ _ z => z, fun a ha => ?_, S.nd, S.cross, S.iod⟩, e⟩
  · by_cases hb : b = p
    · subst hb
      rw [upd_same] at z
      cases z
      exact hH
    · rw [upd_ne hb] at z
      exact S.gh b u z
  · by_cases hbp : b = p
    · subst hbp
      exact .inr hR
    · rw [upd_ne hbp] at hb
      exact S.gr b hb
  · have ne : a ≠ p := fun z => h1 i (z ▸ hi)
    rw [upd_ne ne]
    exact S.free i a hi
  · have ne : a ≠ p := fun z => h2 (z ▸ ha)
    rw [upd_ne ne]
    exact S.freeT a ha
/-- a new tuple, at once known to stay -/
theorem SR.newT (S : SR K R G0 G H env σ tmp) (hp : H p = none) (h : RpAll K G xs ds) :
    SR K R G0 (upd G p (.tup xs)) (upd H p (.tup xs)) env σ ((.va (.tuple ds), .ref p) :: tmp) ∧ Same G (upd G p (.tup xs)) := by
  have S' := S.grow (same_new (o := .tup xs) hp)
  obtain ⟨S2, e2⟩ := S'.gup (p := p) (o := .tup xs) upd_same (S.gh.free hp) (S.rh.free hp) (fun i hi => by
    obtain ⟨ys, q⟩ := S.ownH hi
    rw [hp] at q
    cases q) (fun z => by
    obtain ⟨ys, q⟩ := S.ownTH z
    rw [hp] at q
    cases q)
  exact ⟨S2.pushVa (.tup upd_same (h.mono e2)), e2⟩
/-- one's own list on its way is known to stay -/
theorem SR.thaw (S : SR K R G0 G H env σ ((.ow ds, v) :: tmp)) : ∃ G', Same G G' ∧ SR K R G0 G' H env σ ((.va (.list ds), v) :: tmp) := by
  obtain ⟨a, xs, e, e2, r⟩ := S.tm _ List.mem_cons_self
  have e : v = .ref a := e
  subst e
  have f := S.freeT a (by rw [ownT_ow]; exact List.mem_cons_self)
  have nd := S.nd
  rw [ownT_ow] at nd
  obtain ⟨S2, e3⟩ := S.pop.gup (p := a) e2 f.1 f.2 (fun i hi => S.cross i a hi (by rw [ownT_ow]; exact List.mem_cons_self)) (List.nodup_cons.mp nd).1
  exact ⟨_, e3, S2.pushVa (.lst upd_same (r.mono e3))⟩
theorem getElem?_set_cases {α : Type} {l : List α} {i j : Nat} {x y : α} (h : (l.set i x)[j]? = some y) : (j = i ∧ y = x ∧ i < l.length) ∨ (j ≠ i ∧ l[j]? = some y) := by
  by_cases hj : j = i
  · subst hj
    by_cases hl : j < l.length
    · rw [List.getElem?_set_self hl] at h
      cases h
      exact .inl ⟨rfl, rfl, hl⟩
    · rw [List.getElem?_eq_none (by simpa using hl)] at h
      cases h
  · rw [List.getElem?_set_ne (Ne.symm hj)] at h
    exact .inr ⟨hj, h⟩
theorem iod_no {R : RR} {i : Nat} {c : Cell} (h : ∀ (i : Nat) ds, env[i]? = some (.io ds) → ∃ a, R.io = some a ∧ σ[i]? = some (some (.ref a))) (hc : ∀ ds, c ≠ .io ds) : ∀ (j : Nat) ds, (env.set i c)[j]? = some (.io ds) → ∃ a, R.io = some a ∧ σ[j]? = some (some (.ref a)) := fun j ds q => by
  rcases getElem?_set_cases q with ⟨_, z, _⟩ | ⟨_, z⟩
  · exact absurd z.symm (hc ds)
  · exact h j ds z
theorem iod_set {R : RR} {i : Nat} {c : Cell} {x : Option V} (h : ∀ (i : Nat) ds, env[i]? = some (.io ds) → ∃ a, R.io = some a ∧ σ[i]? = some (some (.ref a))) (hc : ∀ ds, c ≠ .io ds) : ∀ (j : Nat) ds, (env.set i c)[j]? = some (.io ds) → ∃ a, R.io = some a ∧ (σ.set i x)[j]? = some (some (.ref a)) := fun j ds q => by
  rcases getElem?_set_cases q with ⟨_, z, _⟩ | ⟨hj, z⟩
  · exact absurd z.symm (hc ds)
  · rw [List.getElem?_set_ne (Ne.symm hj)]
    exact h j ds z
/-- a cell of one's own is known to stay -/
theorem SR.thawS {i : Nat} (S : SR K R G0 G H env σ ((.sl i, v) :: tmp)) (h : env[i]? = some (.ow ds)) :
    ∃ G', Same G G' ∧ SR K R G0 G' H (env.set i (.va (.list ds))) σ ((.va (.list ds), v) :: tmp) := by
  obtain ⟨a, xs, e, e2, r⟩ := S.slot i _ h
  have ev : σ[i]? = some (some v) := S.tm _ List.mem_cons_self
  rw [e] at ev
  cases ev
  have hO : OwnS env σ i a := ⟨⟨ds, .inl h⟩, e⟩
  have f := S.free i a hO
  have T := S.pop
  have own' : ∀ j b, OwnS (env.set i (.va (.list ds))) σ j b → OwnS env σ j b ∧ j ≠ i := fun j b ⟨⟨es, q⟩, q2⟩ => by
    rcases q with q | q <;> rcases getElem?_set_cases q with ⟨_, z, _⟩ | ⟨hj, z⟩
    · cases z
    · exact ⟨⟨⟨es, .inl z⟩, q2⟩, hj⟩
    · cases z
    · exact ⟨⟨⟨es, .inr z⟩, q2⟩, hj⟩
  -- first forget the cell
  have T1 : SR K R G0 G H (env.set i .no) σ tmp := by
    refine ⟨T.gh, T.rh, T.g0, T.gr, by rw [List.length_set]; exact T.len, fun j c q => ?_, fun j b q => ?_, fun j k b q1 q2 => ?_, T.tm, T.freeT, T.nd, fun j b q => ?_, iod_no T.iod fun _ z => nomatch z⟩
    · rcases getElem?_set_cases q with ⟨_, z, _⟩ | ⟨_, z⟩
      · subst z
        trivial
      · exact T.slot j c z
    all_goals
      have w : ∀ j b, OwnS (env.set i .no) σ j b → OwnS env σ j b := fun j b ⟨⟨es, q⟩, q2⟩ => by
        rcases q with q | q <;> rcases getElem?_set_cases q with ⟨_, z, _⟩ | ⟨hj, z⟩
        · cases z
        · exact ⟨⟨es, .inl z⟩, q2⟩
        · cases z
        · exact ⟨⟨es, .inr z⟩, q2⟩
    · exact T.free j b (w j b q)
    · exact T.apart j k b (w j b q1) (w k b q2)
    · exact T.cross j b (w j b q)
  obtain ⟨S2, e3⟩ := T1.gup (p := a) e2 f.1 f.2 (fun j ⟨⟨es, q⟩, q2⟩ => by
    have hO2 : OwnS env σ j a ∧ j ≠ i := by
      rcases q with q | q <;> rcases getElem?_set_cases q with ⟨_, z, _⟩ | ⟨hj, z⟩
      · cases z
      · exact ⟨⟨⟨es, .inl z⟩, q2⟩, hj⟩
      · cases z
      · exact ⟨⟨⟨es, .inr z⟩, q2⟩, hj⟩
    exact hO2.2 (T.apart j i a hO2.1 hO)) (T.cross i a hO)
  refine ⟨_, e3, ?_⟩
  have S3 : SR K R G0 (upd G a (.lst xs)) H (env.set i (.va (.list ds))) σ tmp := by
    refine ⟨S2.gh, S2.rh, S2.g0, S2.gr, by rw [List.length_set]; exact T.len, fun j c q => ?_, fun j b q => ?_, fun j k b q1 q2 => T.apart j k b (own' j b q1).1 (own' k b q2).1, S2.tm, S2.freeT, S2.nd, fun j b q => T.cross j b (own' j b q).1, iod_no T.iod fun _ z => nomatch z⟩
    · rcases getElem?_set_cases q with ⟨z1, z, _⟩ | ⟨hj, z⟩
      · subst z1
        subst z
        exact ⟨.ref a, e, .lst upd_same (r.mono e3)⟩
      · exact S2.slot j c (by rw [List.getElem?_set_ne (Ne.symm hj)]; exact z)
    · obtain ⟨q1, q2⟩ := own' j b q
      have ne : b ≠ a := fun z => q2 (T.apart j i a (z ▸ q1) hO)
      rw [upd_ne ne]
      exact T.free j b q1
  exact S3.pushVa (.lst upd_same (r.mono e3))
/-- one's own list is written -/
theorem SR.write {i : Nat} {a : Addr} {c : Cell} {ys : List V} {es : List PyData} (S : SR K R G0 G H env σ tmp) (hO : OwnS env σ i a) (hc : c = .ow es ∨ (c = .io es ∧ ∃ ds', env[i]? = some (.io ds'))) (r : RpAll K G ys es) (H' : Hp) (hH : H' = upd H a (.lst ys)) :
    SR K R G0 G H' (env.set i c) σ tmp := by
  subst hH
  have f := S.free i a hO
  have li : i < env.length := by
    obtain ⟨⟨ds, q⟩, _⟩ := hO
    rcases q with q | q <;> exact (List.getElem?_eq_some_iff.mp q).1
  have own' : ∀ j b, OwnS (env.set i c) σ j b → OwnS env σ j b := fun j b ⟨⟨us, q⟩, q2⟩ => by
    rcases q with q | q <;> rcases getElem?_set_cases q with ⟨z, _, _⟩ | ⟨hj, z⟩
    · subst z
      exact ⟨hO.1, q2⟩
    · exact ⟨⟨us, .inl z⟩, q2⟩
    · subst z
      exact ⟨hO.1, q2⟩
    · exact ⟨⟨us, .inr z⟩, q2⟩
  have off : ∀ b o, b ≠ a → H b = some o → upd H a (.lst ys) b = some o := fun b o n z => by
    rw [upd_ne n]
    exact z
  refine ⟨fun b o z => off b o (fun q => ?_) (S.gh b o z), fun b o z => off b o (fun q => ?_) (S.rh b o z), S.g0, S.gr, by rw [List.length_set]; exact S.len, fun j k q => ?_, fun j b q => S.free j b (own' j b q), fun j k b q1 q2 => S.apart j k b (own' j b q1) (own' k b q2), fun q hq => ?_, S.freeT, S.nd, fun j b q => S.cross j b (own' j b q), fun j ds' q => ?_⟩
  · rw [q, f.1] at z
    cases z
  · rw [q, f.2] at z
    cases z
  · rcases getElem?_set_cases q with ⟨z1, z, _⟩ | ⟨hj, z⟩
    · subst z1
      subst z
      rcases hc with z | ⟨z, _⟩ <;> subst z
      · exact ⟨a, ys, hO.2, upd_same, r⟩
      · exact ⟨a, ys, hO.2, upd_same, r⟩
    · exact (S.slot j k z).keep (Same.refl _) fun b us hb e1 e2 => off b _ (fun w => hj (S.apart j i a (w ▸ ⟨by
        obtain ⟨ds, w2⟩ := hb
        rcases w2 with w2 | w2
        · exact ⟨ds, .inl (w2 ▸ z)⟩
        · exact ⟨ds, .inr (w2 ▸ z)⟩, e1⟩) hO)) e2
  · refine (S.tm q hq).keep (Same.refl _) fun b us hb e1 e2 => off b _ (fun w => ?_) e2
    obtain ⟨es', hb⟩ := hb
    refine S.cross i a hO ?_
    obtain ⟨o, w'⟩ := q
    have hb : o = .ow es' := hb
    have e1 : w' = .ref b := e1
    subst hb
    subst e1
    subst w
    have mem_own : ∀ {t : Tmp}, (Opd.ow es', V.ref b) ∈ t → b ∈ ownT t := by
      intro t
      induction t with
      | nil => intro z; cases z
      | cons q t ih =>
        intro z
        rcases List.mem_cons.mp z with z | z
        · subst z
          exact List.mem_cons_self
        · exact ownT_sub b (ih z)
    exact mem_own hq
  · rcases getElem?_set_cases q with ⟨z1, z, _⟩ | ⟨hj, z⟩
    · subst z1
      rcases hc with z2 | ⟨_, ds2, z3⟩
      · rw [z2] at z
        cases z
      · exact S.iod _ _ z3
    · exact S.iod _ _ z
def NoSl (t : Tmp) : Prop := ∀ p ∈ t, ∀ i, p.1 ≠ .sl i
def Opd.cell : Opd → Cell
  | .va d => .va d
  | .ow ds => .ow ds
  | .sl _ => .no
/-- a value is stored -/
theorem SR.store {i : Nat} {o : Opd} (S : SR K R G0 G H env σ ((o, v) :: tmp)) (hn : NoSl tmp) (hi : i < env.length) (ho : ∀ j, o ≠ .sl j) : SR K R G0 G H (env.set i o.cell) (σ.set i (some v)) tmp := by
  have T := S.pop
  have hσ : i < σ.length := by rw [← S.len]; exact hi
  have hv : OpdR K G H σ o v := S.tm _ List.mem_cons_self
  have own' : ∀ j b, OwnS (env.set i o.cell) (σ.set i (some v)) j b → (j ≠ i ∧ OwnS env σ j b) ∨ (j = i ∧ v = .ref b ∧ b ∈ ownT ((o, v) :: tmp) ∧ b ∉ ownT tmp) := fun j b ⟨⟨us, q⟩, q2⟩ => by
    by_cases hj : j = i
    · subst hj
      rw [List.getElem?_set_self hσ] at q2
      have e1 : v = .ref b := Option.some.inj (Option.some.inj q2)
      rw [List.getElem?_set_self hi] at q
      refine .inr ⟨rfl, e1, ?_⟩
      have nd := S.nd
      subst e1
      cases o with
      | va d => rcases q with q | q <;> cases q
      | sl k => rcases q with q | q <;> cases q
      | ow es =>
        rw [ownT_ow] at nd ⊢
        exact ⟨List.mem_cons_self, (List.nodup_cons.mp nd).1⟩
    · rw [List.getElem?_set_ne (Ne.symm hj)] at q q2
      exact .inl ⟨hj, ⟨us, q⟩, q2⟩
  refine ⟨T.gh, T.rh, T.g0, T.gr, by rw [List.length_set, List.length_set]; exact T.len, fun j c q => ?_, fun j b q => ?_, fun j k b q1 q2 => ?_, fun q hq => ?_, T.freeT, T.nd, fun j b q => ?_, iod_set T.iod fun _ z => by cases o <;> cases z⟩
  · rcases getElem?_set_cases q with ⟨z1, z, _⟩ | ⟨hj, z⟩
    · subst z1
      subst z
      rw [List.getElem?_set_self hσ]
      cases o with
      | va d => exact ⟨v, rfl, hv⟩
      | ow es =>
        obtain ⟨a, xs, e1, e2, r⟩ := hv
        exact ⟨a, xs, by rw [e1], e2, r⟩
      | sl k => trivial
    · rw [List.getElem?_set_ne (Ne.symm hj)]
      exact T.slot j c z
  · rcases own' j b q with ⟨_, z⟩ | ⟨_, _, z, _⟩
    · exact T.free j b z
    · exact S.freeT b z
  · rcases own' j b q1 with ⟨n1, z1⟩ | ⟨e1, v1, z1, w1⟩ <;> rcases own' k b q2 with ⟨n2, z2⟩ | ⟨e2, v2, z2, w2⟩
    · exact T.apart j k b z1 z2
    · exact absurd z2 (S.cross j b z1)
    · exact absurd z1 (S.cross k b z2)
    · rw [e1, e2]
  · have h1 := T.tm q hq
    obtain ⟨oq, vq⟩ := q
    cases oq with
    | va d => exact h1
    | ow es => exact h1
    | sl k => exact absurd rfl (hn _ hq k)
  · rcases own' j b q with ⟨_, z⟩ | ⟨_, _, _, w⟩
    · exact T.cross j b z
    · exact w
/-- a name is forgotten, its list goes on its way -/
theorem SR.move {i : Nat} (S : SR K R G0 G H env σ ((.sl i, v) :: tmp)) (h : env[i]? = some (.ow ds)) : SR K R G0 G H (env.set i .no) σ ((.ow ds, v) :: tmp) := by
  obtain ⟨a, xs, e, e2, r⟩ := S.slot i _ h
  have ev : σ[i]? = some (some v) := S.tm _ List.mem_cons_self
  rw [e] at ev
  cases ev
  have hO : OwnS env σ i a := ⟨⟨ds, .inl h⟩, e⟩
  have T := S.pop
  have w : ∀ j b, OwnS (env.set i .no) σ j b → OwnS env σ j b ∧ j ≠ i := fun j b ⟨⟨es, q⟩, q2⟩ => by
    rcases q with q | q <;> rcases getElem?_set_cases q with ⟨_, z, _⟩ | ⟨hj, z⟩
    · cases z
    · exact ⟨⟨⟨es, .inl z⟩, q2⟩, hj⟩
    · cases z
    · exact ⟨⟨⟨es, .inr z⟩, q2⟩, hj⟩
  refine ⟨T.gh, T.rh, T.g0, T.gr, by rw [List.length_set]; exact T.len, fun j c q => ?_, fun j b q => T.free j b (w j b q).1, fun j k b q1 q2 => T.apart j k b (w j b q1).1 (w k b q2).1, fun q hq => ?_, fun b hb => ?_, ?_, fun j b q hb => ?_, iod_no T.iod fun _ z => nomatch z⟩
  · rcases getElem?_set_cases q with ⟨_, z, _⟩ | ⟨_, z⟩
    · subst z
      trivial
    · exact T.slot j c z
  · rcases List.mem_cons.mp hq with z | z
    · subst z
      exact ⟨a, xs, rfl, e2, r⟩
    · exact T.tm q z
  · rw [ownT_ow] at hb
    rcases List.mem_cons.mp hb with z | z
    · subst z
      exact T.free i b hO
    · exact T.freeT b z
  · rw [ownT_ow]
    exact List.nodup_cons.mpr ⟨T.cross i a hO, T.nd⟩
  · rw [ownT_ow] at hb
    rcases List.mem_cons.mp hb with z | z
    · subst z
      exact (w j b q).2 (T.apart j i b (w j b q).1 hO)
    · exact T.cross j b (w j b q).1 z

/-! ### what a value on its way is, now -/
def res (env : EnvD) : Opd → Option PyData
  | .va d => some d
  | .ow ds => some (.list ds)
  | .sl i => match env[i]? with
    | some (.ow ds) => some (.list ds)
    | some (.io ds) => some (.list ds)
    | some (.va d) => some d
    | _ => none
theorem SR.res {o : Opd} (S : SR K R G0 G H env σ tmp) (h : OpdR K G H σ o v) (e : res env o = some d) : Rp K H v d := by
  cases o with
  | va d' =>
    cases e
    exact Rp.mono S.gh h
  | ow ds =>
    cases e
    obtain ⟨a, xs, e1, e2, r⟩ := h
    subst e1
    exact .lst e2 (r.mono S.gh)
  | sl i =>
    have h : σ[i]? = some (some v) := h
    unfold Pd.res at e
    dsimp only at e
    split at e
    · rename_i ds q
      cases e
      obtain ⟨a, xs, e1, e2, r⟩ := S.slot i _ q
      rw [h] at e1
      cases e1
      exact .lst e2 (r.mono S.gh)
    · rename_i ds q
      cases e
      obtain ⟨a, xs, e1, e2, r⟩ := S.slot i _ q
      rw [h] at e1
      cases e1
      exact .lst e2 (r.mono S.gh)
    · rename_i d' q
      cases e
      obtain ⟨u, e1, r⟩ := S.slot i _ q
      rw [h] at e1
      cases e1
      exact r.mono S.gh
    · cases e
/-- a list, its items known to stay -/
theorem SR.resL {o : Opd} (S : SR K R G0 G H env σ tmp) (h : OpdR K G H σ o v) (e : Pd.res env o = some (.list ds)) : ∃ a xs, v = .ref a ∧ H a = some (.lst xs) ∧ RpAll K G xs ds := by
  cases o with
  | va d' =>
    cases e
    have h : Rp K G v (.list ds) := h
    cases h with
    | lst e1 r => exact ⟨_, _, rfl, S.gh _ _ e1, r⟩
  | ow ds' =>
    cases e
    exact h
  | sl i =>
    have h : σ[i]? = some (some v) := h
    unfold Pd.res at e
    dsimp only at e
    split at e
    · rename_i ds' q
      cases e
      obtain ⟨a, xs, e1, e2, r⟩ := S.slot i _ q
      rw [h] at e1
      cases e1
      exact ⟨a, xs, rfl, e2, r⟩
    · rename_i ds' q
      cases e
      obtain ⟨a, xs, e1, e2, r⟩ := S.slot i _ q
      rw [h] at e1
      cases e1
      exact ⟨a, xs, rfl, e2, r⟩
    · rename_i d' q
      cases e
      obtain ⟨u, e1, r⟩ := S.slot i _ q
      rw [h] at e1
      cases e1
      cases r with
      | lst e2 r => exact ⟨_, _, rfl, S.gh _ _ e2, r⟩
    · cases e
/-- a value that is not one's own list: it stays -/
theorem SR.resT {o : Opd} (S : SR K R G0 G H env σ tmp) (h : OpdR K G H σ o v) (e : Pd.res env o = some d) (hd : ∀ ds, d ≠ .list ds) : Rp K G v d := by
  cases o with
  | va d' =>
    cases e
    exact h
  | ow ds =>
    cases e
    exact absurd rfl (hd _)
  | sl i =>
    have h : σ[i]? = some (some v) := h
    unfold Pd.res at e
    dsimp only at e
    split at e
    · cases e
      exact absurd rfl (hd _)
    · cases e
      exact absurd rfl (hd _)
    · rename_i d' q
      cases e
      obtain ⟨u, e1, r⟩ := S.slot i _ q
      rw [h] at e1
      cases e1
      exact r
    · cases e
end
end Pd

/-! a small language of data: what the text's expressions and statements do, where they do it by the rules of one's own lists -/
namespace Pd
open PySem

inductive Bop where
  | add | sub | mul | fdiv | md | pow
inductive Cop where
  | lt | le | gt | ge | eq | ne
/-- built-in functions and types that are called -/
inductive Bi where
  | len | sum | max | min | abs | int | list | tuple | all | any | sorted | divmod | repr | bool
inductive Mut where
  | append | extend | pop
inductive Mth where
  | count | index
inductive Ty where
  | int | bool | str | list | tuple | dict
/-- what a call or an operation hands back -/
inductive Rv where
  | va (d : PyData) | ow (ds : List PyData)
def Rv.opd : Rv → Opd
  | .va d => .va d
  | .ow ds => .ow ds
def Rv.d : Rv → PyData
  | .va d => d
  | .ow ds => .list ds

mutual
inductive Ex where
  | cst (d : PyData)
  | var (i : Nat)
  | bin (o : Bop) (a b : Ex)
  | neg (a : Ex)
  | cmp (o : Cop) (a b : Ex)
  | chn (o p : Cop) (a b c : Ex)
  | isc (ng : Bool) (c : PyData) (a : Ex)
  | inn (ng : Bool) (a b : Ex)
  | and_ (a b : Ex)
  | or_ (a b : Ex)
  | not_ (a : Ex)
  | ite (c a b : Ex)
  | lst (es : Exs)
  | tup (es : Exs)
  | idx (a i : Ex)
  | slc (a : Ex) (lo hi : Eo)
  | rev (a : Ex)
  | call (f : Nat) (es ks : Exs) (pm : List Nat)
  | bi (b : Bi) (es : Exs)
  | isi (ts : List Ty) (a : Ex)
  | mut (m : Mut) (i : Nat) (es : Exs)
  | mth (m : Mth) (a b : Ex)
  | comp (el : Ex) (tg : Tg) (sr : Src) (ts : Exs) (own : List Nat)
  | reprL (es : Exs)
  | zipL (a b : Ex)
  | lenSet (a : Ex)
  | compO (k : Nat) (el : Ex) (tg : Tg) (ts : Exs) (own : List Nat)
  | rngL (tp : Bool) (es : Exs)
  | fz (a : Ex)
  | pre (is : List Nat) (a : Ex)
inductive Exs where
  | nil
  | cons (e : Ex) (es : Exs)
inductive Eo where
  | no
  | yes (e : Ex)
inductive Src where
  | ex (e : Ex)
  | rng (es : Exs)
  | enum (e : Ex)
  | zip (a b : Ex)
inductive Tg where
  | nm (i : Nat)
  | tp (ts : Tgs)
  | sb (i : Nat) (ix : Ex)
inductive Tgs where
  | nil
  | cons (t : Tg) (ts : Tgs)
end

mutual
inductive Sm where
  | exp (e : Ex)
  | asg (i : Nat) (e : Ex) (mv : Bool)
  | asgT (tg : Tg) (e : Ex)
  | par (is : List Nat) (es : Exs)
  | ret (e : Ex)
  | retN
  | ite (c : Ex) (a b : Sms)
  | whl (c : Ex) (b : Sms)
  | for_ (tg : Tg) (sr : Src) (b : Sms)
  | spoil (i : Nat) (is : List Nat)
  | stop
  | pass
inductive Sms where
  | nil
  | cons (s : Sm) (ss : Sms)
end

/-- what a def does: its first parameter may be changed (io) -/
structure Sig where
  io : Bool
  run : List PyData → Option (Rv × List PyData)
abbrev Tab := Nat → Option Sig

/-! ### what the operations do -/
def mulOk (i j : Int) : Bool := decide (i.natAbs.log2 + j.natAbs.log2 < 1000000)
def divOk (j : Int) : Bool := decide (0 < j) && decide (j.natAbs.log2 < 9000)
def binD : Bop → PyData → PyData → Option Rv
  | .add, .int i, .int j => some (.va (.int (i + j)))
  | .add, .list xs, .list ys => if xs.length + ys.length ≤ 16777216 then some (.ow (xs ++ ys)) else none
  | .add, .tuple xs, .tuple ys => if xs.length + ys.length ≤ 16777216 then some (.va (.tuple (xs ++ ys))) else none
  | .sub, .int i, .int j => some (.va (.int (i - j)))
  | .mul, .int i, .int j => if mulOk i j then some (.va (.int (i * j))) else none
  | .mul, .list xs, .int k => if -1000000 ≤ k ∧ k ≤ 1000000 ∧ xs.length * k.toNat ≤ 16777216 then some (.ow (List.replicate k.toNat xs).flatten) else none
  | .fdiv, .int i, .int j => if divOk j then some (.va (.int (i / j))) else none
  | .md, .int i, .int j => if 0 < j then some (.va (.int (i % j))) else none
  | .pow, .int i, .int j => if 0 ≤ j ∧ j ≤ 1000000 ∧ i.natAbs < 2 ^ 64 then some (.va (.int (i ^ j.toNat))) else none
  | _, _, _ => none
def cmpD : Cop → PyData → PyData → Option Bool
  | .lt, .int i, .int j => some (decide (i < j))
  | .le, .int i, .int j => some (decide (i ≤ j))
  | .gt, .int i, .int j => some (decide (j < i))
  | .ge, .int i, .int j => some (decide (j ≤ i))
  | .eq, .int i, .int j => some (decide (i = j))
  | .ne, .int i, .int j => some (!decide (i = j))
  | .eq, .str x, .str y => some (decide (x = y))
  | .ne, .str x, .str y => some (!decide (x = y))
  | .eq, d, e => if SeqAt.shaped d && SeqAt.shaped e then some (PyData.eqv d e) else none
  | .ne, d, e => if SeqAt.shaped d && SeqAt.shaped e then some (!PyData.eqv d e) else none
  | _, _, _ => none
/-- x is c (None, True, False) -/
def isD (ng : Bool) : PyData → PyData → Option Bool
  | .none, .none => some (!ng)
  | .none, _ => some ng
  | .bool b, .bool c => some (if ng then !decide (c = b) else decide (c = b))
  | _, _ => none
def allInts : List PyData → Option (List Int)
  | [] => some []
  | .int i :: r => (allInts r).map (i :: ·)
  | _ => none
def allBools : List PyData → Option (List Bool)
  | [] => some []
  | .bool b :: r => (allBools r).map (b :: ·)
  | _ => none
def items : PyData → Option (List PyData)
  | .list ds => some ds
  | .tuple ds => some ds
  | _ => none
def innD (ng : Bool) (x : PyData) (s : PyData) : Option Bool := match x, items s with
  | .int i, some ds => (allInts ds).map fun ns => if ng then !ns.contains i else ns.contains i
  | _, _ => none
/-- the place that i names -/
def ixD (n : Nat) (i : Int) : Option Nat := L2.ixN n i
def scrOf : PyData → Option (List Int)
  | .dict [(.none, .list ds)] => allInts ds
  | _ => none
def idxD : PyData → PyData → Option PyData
  | .list ds, .int i => (L2.atI ds i)
  | .tuple ds, .int i => (L2.atI ds i)
  | d, .int i => (scrOf d).bind fun ns => (L2.atI ns i).map .int
  | _, _ => none
def bnd : Option PyData → Option (Option Int)
  | none => some none
  | some (.int i) => some (some i)
  | _ => none
def cutD {α : Type} (xs : List α) (lo hi : Option Int) : List α := (xs.drop (HT.sIx xs.length 0 lo)).take (HT.sIx xs.length xs.length hi - HT.sIx xs.length 0 lo)
def slcD : PyData → Option Int → Option Int → Option Rv
  | .list ds, lo, hi => some (.ow (cutD ds lo hi))
  | .tuple ds, lo, hi => some (.va (.tuple (cutD ds lo hi)))
  | d, lo, hi => (scrOf d).bind fun ns => some (.ow ((cutD ns lo hi).map .int))
def rszs : List PyData → Nat := fun ds => ds.length
mutual
/-- a bound of the written form's length -/
def wsz : PyData → Nat
  | .none => 5
  | .bool _ => 5
  | .int i => i.natAbs.log2 + 3
  | .str x => 10 * x.length + 2
  | .list ds => wszs ds + 3
  | .tuple ds => wszs ds + 3
  | .dict _ => 100000000
def wszs : List PyData → Nat
  | [] => 0
  | d :: ds => wsz d + 2 + wszs ds
end
def reprOk (d : PyData) : Bool := d.canLay0 && d.showable && decide (d.depth ≤ 100) && decide (wsz d ≤ 16777216)
def maxI : List Int → Int
  | [] => 0
  | [x] => x
  | x :: y :: r => let m := maxI (y :: r); if x < m then m else x
def minI : List Int → Int
  | [] => 0
  | [x] => x
  | x :: y :: r => let m := minI (y :: r); if m < x then m else x
def insI (x : Int) : List Int → List Int
  | [] => [x]
  | y :: r => if x ≤ y then x :: y :: r else y :: insI x r
def sortI : List Int → List Int
  | [] => []
  | x :: r => insI x (sortI r)
/-- lists of whole numbers, one behind the other -/
def allRows : List PyData → Option (List (List Int))
  | [] => some []
  | .list ds :: r => (allInts ds).bind fun x => (allRows r).bind fun xs => some (x :: xs)
  | _ => none
def sortR (rows : List (List Int)) : List (List Int) := rows.mergeSort fun p q => decide (p ≤ q)
def biD : Bi → List PyData → Option Rv
  | .len, [.list ds] => some (.va (.int ds.length))
  | .len, [.tuple ds] => some (.va (.int ds.length))
  | .len, [.str x] => if x.length ≤ 16777216 then some (.va (.int x.length)) else none
  | .len, [d] => (scrOf d).map fun ns => .va (.int ns.length)
  | .sum, [.list ds] => (allInts ds).map fun ns => .va (.int ns.sum)
  | .sum, [.tuple ds] => (allInts ds).map fun ns => .va (.int ns.sum)
  | .max, [.int i, .int j] => some (.va (.int (if i < j then j else i)))
  | .max, [.list ds] => (allInts ds).bind fun ns => if ns = [] then none else some (.va (.int (maxI ns)))

  | .min, [.int i, .int j] => some (.va (.int (if j < i then j else i)))
  | .min, [.list ds] => (allInts ds).bind fun ns => if ns = [] then none else some (.va (.int (minI ns)))
  | .abs, [.int i] => some (.va (.int (if i < 0 then -i else i)))
  | .int, [.int i] => some (.va (.int i))
  | .int, [.bool b] => some (.va (.int (if b then 1 else 0)))
  | .list, [.list ds] => some (.ow ds)
  | .list, [.tuple ds] => some (.ow ds)
  | .tuple, [.list ds] => some (.va (.tuple ds))
  | .tuple, [.tuple ds] => some (.va (.tuple ds))
  | .all, [.list ds] => (allBools ds).map fun bs => .va (.bool (bs.all id))
  | .any, [.list ds] => (allBools ds).map fun bs => .va (.bool (bs.any id))
  | .sorted, [.list ds] => match allInts ds with
    | some ns => some (.ow ((sortI ns).map .int))
    | none => (allRows ds).bind fun rows => some (.ow ((sortR rows).map fun r => .list (r.map .int)))
  | .divmod, [.int i, .int j] => if divOk j then some (.va (.tuple [.int (i / j), .int (i % j)])) else none
  | .repr, [d] => if reprOk d then some (.va (.str d.shown)) else none
  | _, _ => none
def tyD : PyData → Option Ty
  | .bool _ => some .bool
  | .int _ => some .int
  | .str _ => some .str
  | .list _ => some .list
  | .tuple _ => some .tuple
  | .none => none
  | .dict _ => none
def isTy : PyData → Ty → Bool
  | .bool _, .bool => true
  | .bool _, .int => true
  | .int _, .int => true
  | .str _, .str => true
  | .list _, .list => true
  | .tuple _, .tuple => true
  | _, _ => false
def plainD : PyData → Bool
  | .dict _ => false
  | _ => true
def sameK : PyData → PyData → Bool
  | .list _, .list _ => true
  | .tuple _, .tuple _ => true
  | _, _ => false
/-- how often a thing stands in a list, in a tuple -/
def oftD (ds : List PyData) (y : PyData) : Option PyData := if SeqAt.shaped (.list ds) && SeqAt.shaped y then some (.int (ds.countP fun z => PyData.eqv z y : Nat)) else none
def cntL (ds : List PyData) (y : PyData) : Option PyData := match allInts ds, y with
  | some ns, .int i => some (.int (ns.count i))
  | _, y => oftD ds y
/-- where a thing stands first -/
def idxL (ds : List PyData) (y : PyData) : Option PyData := if SeqAt.shaped (.list ds) && SeqAt.shaped y then (ds.findIdx? fun z => PyData.eqv z y).map fun (j : Nat) => .int j else none
def mthD : Mth → PyData → PyData → Option PyData
  | .count, .list ds, y => cntL ds y
  | .index, .list ds, y => idxL ds y
  | _, _, _ => none
/-- what a mutating method does: the list behind it, the answer -/
def mutD : Mut → List PyData → List PyData → Option (List PyData × PyData)
  | .append, ds, [x] => if ds.length < 16777216 then some (ds ++ [x], .none) else none
  | .extend, ds, [.list es] => if ds.length + es.length ≤ 16777216 then some (ds ++ es, .none) else none
  | .pop, ds, [] => (ds.getLast?).map fun x => (ds.dropLast, x)
  | .pop, ds, [.int i] => if -1000000000 ≤ i ∧ i ≤ 1000000000 then (L2.ixN ds.length i).bind fun j => (ds[j]?).map fun x => (ds.eraseIdx j, x) else none
  | _, _, _ => none

/-! ### the frame -/
/-- a value is taken into a list, a tuple, a call: from now on it stays -/
def frz (env : EnvD) : Opd → Option (PyData × EnvD)
  | .va d => some (d, env)
  | .ow ds => some (.list ds, env)
  | .sl i => match env[i]? with
    | some (.ow ds) => some (.list ds, env.set i (.va (.list ds)))
    | some (.va d) => some (d, env)
    | _ => none
def frzs : EnvD → List Opd → Option (List PyData × EnvD)
  | env, [] => some ([], env)
  | env, o :: r => (frz env o).bind fun p => (frzs p.2 r).bind fun q => some (p.1 :: q.1, q.2)
def ress (env : EnvD) : List Opd → Option (List PyData)
  | [] => some []
  | o :: r => (res env o).bind fun d => (ress env r).bind fun ds => some (d :: ds)
def isOwn (env : EnvD) (i : Nat) : Bool := match env[i]? with
  | some (.ow _) => true
  | some (.io _) => true
  | _ => false
def truth : Opd → Option Bool
  | .va (.bool b) => some b
  | _ => none
/-- places of the parameters among the values given -/
def perm {α : Type} (xs : List α) : List Nat → Option (List α)
  | [] => some []
  | j :: r => (xs[j]?).bind fun x => (perm xs r).bind fun ys => some (x :: ys)
def wipe1 (env : EnvD) : List Nat → EnvD
  | [] => env
  | i :: r => (wipe1 env r).set i .no
/-- the names that a comprehension hides come back -/
def back (old : EnvD) : List Nat → EnvD → Option EnvD
  | [], env => some env
  | i :: r, env => (back old r env).bind fun e => match old[i]? with
    | some (.va d) => some (e.set i (.va d))
    | some .no => some (e.set i .no)
    | _ => none
def ints3 (ds : List PyData) : Option (List Int) := match ds with
  | [.int b] => if -1000000000000 ≤ b ∧ b ≤ 1000000000000 then some ((List.range b.toNat).map fun (k : Nat) => (k : Int)) else none
  | [.int a, .int b] => if -1000000000000 ≤ a ∧ a ≤ 1000000000000 ∧ -1000000000000 ≤ b ∧ b ≤ 1000000000000 then some ((List.range (b - a).toNat).map fun (k : Nat) => a + (k : Int)) else none
  | [.int a, .int b, .int c] => if c = -1 ∧ -1000000000000 ≤ a ∧ a ≤ 1000000000000 ∧ -1000000000000 ≤ b ∧ b ≤ 1000000000000 then some ((List.range (a - b).toNat).map fun (k : Nat) => a - (k : Int)) else none
  | _ => none
def enumF : Nat → List PyData → List PyData
  | _, [] => []
  | k, d :: r => .tuple [.int k, d] :: enumF (k + 1) r
def zipF : List PyData → List PyData → List PyData
  | x :: xs, y :: ys => .tuple [x, y] :: zipF xs ys
  | _, _ => []
def zipD : PyData → PyData → Option (List PyData)
  | .list xs, .list ys => some (zipF xs ys)
  | .tuple xs, .tuple ys => some (zipF xs ys)
  | _, _ => none
/-- len(set(..)) of a tuple of whole numbers -/
def lenSetD : PyData → Option PyData
  | .tuple ds => (allInts ds).bind fun ns => if ns.length ≤ 4000 then some (.int (ns.eraseDups.length : Nat)) else none
  | _ => none
def zipLD : PyData → PyData → Option (List PyData)
  | .list xs, .list ys => some (zipF xs ys)
  | _, _ => none
mutual
/-- alike in all they are made of -/
def sameD : PyData → PyData → Bool
  | .none, .none => true
  | .bool a, .bool b => a == b
  | .int a, .int b => a == b
  | .str a, .str b => a == b
  | .list a, .list b => sameDs a b
  | .tuple a, .tuple b => sameDs a b
  | .dict a, .dict b => sameKs a b
  | _, _ => false
def sameDs : List PyData → List PyData → Bool
  | [], [] => true
  | a :: r, b :: s => sameD a b && sameDs r s
  | _, _ => false
def sameKs : List (PyData × PyData) → List (PyData × PyData) → Bool
  | [], [] => true
  | (a, b) :: r, (c, d) :: s => sameD a c && sameD b d && sameKs r s
  | _, _ => false
end
mutual
theorem sameD_eq : ∀ {a b : PyData}, sameD a b = true → a = b
  | .none, .none, _ => rfl
  | .bool a, .bool b, h => by rw [eq_of_beq (by simpa [sameD] using h : (a == b) = true)]
  | .int a, .int b, h => by rw [eq_of_beq (by simpa [sameD] using h : (a == b) = true)]
  | .str a, .str b, h => by rw [eq_of_beq (by simpa [sameD] using h : (a == b) = true)]
  | .list a, .list b, h => by rw [sameDs_eq (a := a) (b := b) (by simpa [sameD] using h)]
  | .tuple a, .tuple b, h => by rw [sameDs_eq (a := a) (b := b) (by simpa [sameD] using h)]
  | .dict a, .dict b, h => by rw [sameKs_eq (a := a) (b := b) (by simpa [sameD] using h)]
theorem sameDs_eq : ∀ {a b : List PyData}, sameDs a b = true → a = b
  | [], [], _ => rfl
  | a :: r, b :: s, h => by
    rw [sameDs, Bool.and_eq_true] at h
    rw [sameD_eq h.1, sameDs_eq h.2]
theorem sameKs_eq : ∀ {a b : List (PyData × PyData)}, sameKs a b = true → a = b
  | [], [], _ => rfl
  | (a, b) :: r, (c, d) :: s, h => by
    rw [sameKs, Bool.and_eq_true, Bool.and_eq_true] at h
    rw [sameD_eq h.1.1, sameD_eq h.1.2, sameKs_eq h.2]
end
mutual
theorem sameD_rfl : ∀ a : PyData, sameD a a = true
  | .none => by rw [sameD]
  | .bool a => by simp [sameD]
  | .int a => by simp [sameD]
  | .str a => by simp [sameD]
  | .list a => by rw [sameD]; exact sameDs_rfl a
  | .tuple a => by rw [sameD]; exact sameDs_rfl a
  | .dict a => by rw [sameD]; exact sameKs_rfl a
theorem sameDs_rfl : ∀ a : List PyData, sameDs a a = true
  | [] => by rw [sameDs]
  | a :: r => by rw [sameDs, sameD_rfl a, sameDs_rfl r]; rfl
theorem sameKs_rfl : ∀ a : List (PyData × PyData), sameKs a a = true
  | [] => by rw [sameKs]
  | (a, b) :: r => by rw [sameKs, sameD_rfl a, sameD_rfl b, sameKs_rfl r]; rfl
end
def sameC : Cell → Cell → Bool
  | .no, .no => true
  | .va a, .va b => sameD a b
  | .ow a, .ow b => sameDs a b
  | .io a, .io b => sameDs a b
  | _, _ => false
theorem sameC_eq : ∀ {a b : Cell}, sameC a b = true → a = b
  | .no, .no, _ => rfl
  | .va a, .va b, h => congrArg Cell.va (sameD_eq h)
  | .ow a, .ow b, h => congrArg Cell.ow (sameDs_eq h)
  | .io a, .io b, h => congrArg Cell.io (sameDs_eq h)
theorem sameC_rfl : ∀ a : Cell, sameC a a = true
  | .no => rfl
  | .va a => sameD_rfl a
  | .ow a => sameDs_rfl a
  | .io a => sameDs_rfl a
def sameEnv : EnvD → EnvD → Bool
  | [], [] => true
  | a :: r, b :: s => sameC a b && sameEnv r s
  | _, _ => false
theorem sameEnv_eq : ∀ {a b : EnvD}, sameEnv a b = true → a = b
  | [], [], _ => rfl
  | a :: r, b :: s, h => by
    rw [sameEnv, Bool.and_eq_true] at h
    rw [sameC_eq h.1, sameEnv_eq h.2]
theorem sameEnv_rfl : ∀ a : EnvD, sameEnv a a = true
  | [] => rfl
  | a :: r => by rw [sameEnv, sameC_rfl a, sameEnv_rfl r]; rfl
def compL (tg : PyData → EnvD → Option EnvD) (ts : EnvD → Option (Bool × EnvD)) (el : EnvD → Option (PyData × EnvD)) (own : List Nat) : List PyData → EnvD → Option (List PyData × EnvD)
  | [], env => some ([], env)
  | d :: r, env => (tg d env).bind fun e1 => (ts e1).bind fun p => match p.1 with
    | true => (el p.2).bind fun q => (compL tg ts el own r (wipe1 q.2 own)).bind fun z => some (q.1 :: z.1, z.2)
    | false => compL tg ts el own r (wipe1 p.2 own)

/-- as compL, the names as they were behind each turn -/
def compLP (W : EnvD) (tg : PyData → EnvD → Option EnvD) (ts : EnvD → Option (Bool × EnvD)) (el : EnvD → Option (PyData × EnvD)) (own : List Nat) : List PyData → Option (List PyData)
  | [] => some []
  | d :: r => (tg d W).bind fun e1 => (ts e1).bind fun p => match p.1 with
    | true => (el p.2).bind fun q => if sameEnv (wipe1 q.2 own) W then (compLP W tg ts el own r).bind fun z => some (q.1 :: z) else none
    | false => if sameEnv (wipe1 p.2 own) W then compLP W tg ts el own r else none
/-- a def's work on values on their way -/
def callF (g : Sig) (pm : List Nat) (env : EnvD) (os : List Opd) : Option (Opd × EnvD) := match g.io with
  | false => (frzs env os).bind fun q => (perm q.1 pm).bind fun as => (g.run as).bind fun r => some (r.1.opd, q.2)
  | true => match os with
    | .sl i :: rs => if pm = List.range (rs.length + 1) then (frzs env rs).bind fun q => match q.2[i]? with
      | some (.ow ds) => (g.run (.list ds :: q.1)).bind fun r => some (r.1.opd, q.2.set i (.ow r.2))
      | some (.io ds) => (g.run (.list ds :: q.1)).bind fun r => some (r.1.opd, q.2.set i (.io r.2))
      | _ => none else none
    | .ow ds :: rs => if pm = List.range (rs.length + 1) then (frzs env rs).bind fun q => (g.run (.list ds :: q.1)).bind fun r => some (r.1.opd, q.2) else none
    | _ => none
/-- a value that stays from now on, no name of what stays already -/
def fzO (env : EnvD) : Opd → Option (PyData × EnvD)
  | .va d => some (d, env)
  | .ow ds => some (.list ds, env)
  | .sl i => match env[i]? with
    | some (.ow ds) => some (.list ds, env.set i (.va (.list ds)))
    | _ => none
/-- lists of one's own that stay from now on -/
def preE : List Nat → EnvD → EnvD
  | [], env => env
  | i :: r, env => preE r (match env[i]? with
    | some (.ow ds) => env.set i (.va (.list ds))
    | _ => env)
section
variable (Γ : Tab)
mutual
def evE : Ex → EnvD → Option (Opd × EnvD)
  | .cst d, env => some (.va d, env)
  | .var i, env => match env[i]? with
    | some (.va d) => some (.va d, env)
    | some (.ow _) => some (.sl i, env)
    | some (.io _) => some (.sl i, env)
    | _ => none
  | .bin o a b, env => (evE a env).bind fun p => (evE b p.2).bind fun q => (res q.2 p.1).bind fun x => (res q.2 q.1).bind fun y => (binD o x y).bind fun r => some (r.opd, q.2)
  | .neg a, env => (evE a env).bind fun p => match p.1 with
    | .va (.int i) => some (.va (.int (-i)), p.2)
    | _ => none
  | .cmp o a b, env => (evE a env).bind fun p => (evE b p.2).bind fun q => (res q.2 p.1).bind fun x => (res q.2 q.1).bind fun y => (cmpD o x y).bind fun r => some (.va (.bool r), q.2)
  | .chn o o' a b c, env => (evE a env).bind fun p => (evE b p.2).bind fun q => (res q.2 p.1).bind fun x => (res q.2 q.1).bind fun y => (cmpD o x y).bind fun r => match r with
    | true => (evE c q.2).bind fun w => (res w.2 q.1).bind fun y => (res w.2 w.1).bind fun z => (cmpD o' y z).bind fun r => some (.va (.bool r), w.2)
    | false => some (.va (.bool false), q.2)
  | .isc ng c a, env => (evE a env).bind fun p => match p.1 with
    | .va d => (isD ng c d).bind fun r => some (.va (.bool r), p.2)
    | _ => none
  | .inn ng a b, env => (evE a env).bind fun p => (evE b p.2).bind fun q => (res q.2 p.1).bind fun x => (res q.2 q.1).bind fun y => (innD ng x y).bind fun r => some (.va (.bool r), q.2)
  | .and_ a b, env => (evE a env).bind fun p => (truth p.1).bind fun t => match t with
    | true => evE b p.2
    | false => some (.va (.bool false), p.2)
  | .or_ a b, env => (evE a env).bind fun p => (truth p.1).bind fun t => match t with
    | true => some (.va (.bool true), p.2)
    | false => evE b p.2
  | .not_ a, env => (evE a env).bind fun p => (truth p.1).bind fun t => some (.va (.bool (!t)), p.2)
  | .ite c a b, env => (evE c env).bind fun p => (truth p.1).bind fun t => match t with
    | true => evE a p.2
    | false => evE b p.2
  | .lst es, env => (evEs es env).bind fun p => (frzs p.2 p.1).bind fun q => if q.1.length ≤ 16777216 then some (.ow q.1, q.2) else none
  | .tup es, env => (evEs es env).bind fun p => (frzs p.2 p.1).bind fun q => if q.1.length ≤ 16777216 then some (.va (.tuple q.1), q.2) else none
  | .idx a i, env => (evE a env).bind fun p => (evE i p.2).bind fun q => (res q.2 p.1).bind fun x => (res q.2 q.1).bind fun y => (idxD x y).bind fun r => some (.va r, q.2)
  | .slc a lo hi, env => (evE a env).bind fun p => (evO lo p.2).bind fun q => (evO hi q.2).bind fun w => (res w.2 p.1).bind fun x => (slcD x q.1 w.1).bind fun r => some (r.opd, w.2)
  | .rev a, env => (evE a env).bind fun p => (res p.2 p.1).bind fun x => match x with
    | .list ds => some (.ow ds.reverse, p.2)
    | _ => none
  | .call f es ks pm, env => (evEs es env).bind fun p0 => (evEs ks p0.2).bind fun p => (Γ f).bind fun g => callF g pm p.2 (p0.1 ++ p.1)
  | .bi b es, env => (evEs es env).bind fun p => (ress p.2 p.1).bind fun ds => (biD b ds).bind fun r => some (r.opd, p.2)
  | .isi ts a, env => (evE a env).bind fun p => (res p.2 p.1).bind fun d => if plainD d && decide (ts.length ≤ 100) then some (.va (.bool (ts.any (isTy d))), p.2) else none
  | .mut m i es, env => if isOwn env i then (evEs es env).bind fun p => (frzs p.2 p.1).bind fun q => match q.2[i]? with
    | some (.ow ds) => (mutD m ds q.1).bind fun r => some (.va r.2, q.2.set i (.ow r.1))
    | some (.io ds) => (mutD m ds q.1).bind fun r => some (.va r.2, q.2.set i (.io r.1))
    | _ => none else none
  | .mth m a b, env => (evE a env).bind fun p => (res p.2 p.1).bind fun x0 => (evE b p.2).bind fun q => (res q.2 p.1).bind fun x => (res q.2 q.1).bind fun y => if sameK x0 x then (mthD m x y).bind fun r => some (.va r, q.2) else none
  | .comp el tg sr ts own, env => (evS sr env).bind fun p =>
      if p.1.length < 16777216 then
        (compL (fun d e => asgT tg d e) (fun e => evAll ts e) (fun e => (evE el e).bind fun r => frz r.2 r.1) own p.1 (wipe1 p.2 own)).bind fun q => (back p.2 own q.2).bind fun e => some (.ow q.1, e)
      else none
  | .reprL es, env => (evEs es env).bind fun p => (ress p.2 p.1).bind fun ds => if reprOk (.list ds) then some (.va (.str (PyData.list ds).shown), p.2) else none
  | .compO k el tg ts own, env => match env[k]? with
    | some (.ow ds) => if ds.length < 16777216 ∧ k ∉ own then (compLP (wipe1 env own) (fun d e => asgT tg d e) (fun e => evAll ts e) (fun e => (evE el e).bind fun r => frz r.2 r.1) own (enumF 0 ds)).bind fun out => (back env own (wipe1 env own)).bind fun e => some (.ow out, e) else none
    | _ => none
  | .lenSet a, env => (evE a env).bind fun p => (res p.2 p.1).bind fun x => (lenSetD x).bind fun r => some (.va r, p.2)
  | .zipL a b, env => (evE a env).bind fun p => (evE b p.2).bind fun q => (res q.2 p.1).bind fun x => (res q.2 q.1).bind fun y => (zipLD x y).bind fun r => some (.ow r, q.2)
  | .rngL tp es, env => (evEs es env).bind fun p => (ress p.2 p.1).bind fun ds => (ints3 ds).bind fun ns => if ns.length ≤ 16777216 then (match tp with
    | false => some (.ow (ns.map .int), p.2)
    | true => some (.va (.tuple (ns.map .int)), p.2)) else none
  | .fz a, env => (evE a env).bind fun p => (fzO p.2 p.1).bind fun q => some (.va q.1, q.2)
  | .pre is a, env => evE a (preE is env)
def evEs : Exs → EnvD → Option (List Opd × EnvD)
  | .nil, env => some ([], env)
  | .cons e es, env => (evE e env).bind fun p => (evEs es p.2).bind fun q => some (p.1 :: q.1, q.2)
def evO : Eo → EnvD → Option (Option Int × EnvD)
  | .no, env => some (none, env)
  | .yes e, env => (evE e env).bind fun p => match p.1 with
    | .va (.int i) => some (some i, p.2)
    | _ => none
/-- the tests of a comprehension, one after another -/
def evAll : Exs → EnvD → Option (Bool × EnvD)
  | .nil, env => some (true, env)
  | .cons e es, env => (evE e env).bind fun p => (truth p.1).bind fun t => match t with
    | true => evAll es p.2
    | false => some (false, p.2)
/-- what a loop walks; its items stay -/
def evS : Src → EnvD → Option (List PyData × EnvD)
  | .ex e, env => (evE e env).bind fun p => (frz p.2 p.1).bind fun q => (items q.1).bind fun ds => some (ds, q.2)
  | .rng es, env => (evEs es env).bind fun p => (ress p.2 p.1).bind fun ds => (ints3 ds).bind fun ns => some (ns.map .int, p.2)
  | .enum e, env => (evE e env).bind fun p => (frz p.2 p.1).bind fun q => (items q.1).bind fun ds => some (enumF 0 ds, q.2)
  | .zip a b, env => (evE a env).bind fun p => (evE b p.2).bind fun q => (frzs q.2 [p.1, q.1]).bind fun w => match w.1 with
    | [x, y] => (zipD x y).bind fun ds => some (ds, w.2)
    | _ => none
def asgT : Tg → PyData → EnvD → Option EnvD
  | .nm i, d, env => if i < env.length then some (env.set i (.va d)) else none
  | .tp ts, .tuple ds, env => asgTs ts ds env
  | .tp _, _, _ => none
  | .sb i ix, d, env => if isOwn env i then (evE ix env).bind fun p => match p.1, p.2[i]? with
    | .va (.int k), some (.ow ds) => (L2.ixN ds.length k).bind fun j => some (p.2.set i (.ow (ds.set j d)))
    | .va (.int k), some (.io ds) => (L2.ixN ds.length k).bind fun j => some (p.2.set i (.io (ds.set j d)))
    | _, _ => none else none
def asgTs : Tgs → List PyData → EnvD → Option EnvD
  | .nil, [], env => some env
  | .cons t ts, d :: ds, env => (asgT t d env).bind fun e => asgTs ts ds e
  | _, _, _ => none
end
end
end Pd

/-! statements; how a text is read into the small language -/
namespace Pd
open PySem

inductive Out where
  | nx (env : EnvD) | rt (r : Rv) (env : EnvD)
def whlL (c : EnvD → Option (Bool × EnvD)) (b : EnvD → Option Out) : Nat → EnvD → Option Out
  | 0, _ => none
  | n + 1, env => (c env).bind fun p => match p.1 with
    | true => (b p.2).bind fun o => match o with
      | .nx e => whlL c b n e
      | .rt r e => some (.rt r e)
    | false => some (.nx p.2)
def forL (tg : PyData → EnvD → Option EnvD) (b : EnvD → Option Out) : List PyData → EnvD → Option Out
  | [], env => some (.nx env)
  | d :: r, env => (tg d env).bind fun e => (b e).bind fun o => match o with
    | .nx e' => forL tg b r e'
    | .rt v e' => some (.rt v e')
/-- names read at the right of a parallel assignment: their lists stay from now on -/
def frzSl : EnvD → List Opd → Option (List Opd × EnvD)
  | env, [] => some ([], env)
  | env, .sl i :: r => (frz env (.sl i)).bind fun p => (frzSl p.2 r).bind fun q => some (.va p.1 :: q.1, q.2)
  | env, o :: r => (frzSl env r).bind fun q => some (o :: q.1, q.2)
def setAll : List Nat → List Opd → EnvD → Option EnvD
  | [], [], env => some env
  | i :: is, o :: os, env => if i < env.length then setAll is os (env.set i o.cell) else none
  | _, _, _ => none
/-- for x in (a, b, ..): x.append(None) -/
def spoilL (i : Nat) : List Nat → EnvD → Option EnvD
  | [], env => some env
  | j :: r, env => match env[j]? with
    | some (.ow ds) => if ds.length < 16777216 ∧ i < env.length ∧ j ≠ i then spoilL i r ((env.set j .no).set i (.ow (ds ++ [.none]))) else none
    | _ => none
section
variable (Γ : Tab) (n : Nat)
mutual
def exS : Sm → EnvD → Option Out
  | .exp e, env => (evE Γ e env).bind fun p => some (.nx p.2)
  | .asg i e mv, env => (evE Γ e env).bind fun p => if i < p.2.length then (match p.1 with
    | .sl j => match mv with
      | false => (frz p.2 (.sl j)).bind fun q => some (.nx (q.2.set i (.va q.1)))
      | true => match p.2[j]? with
        | some (.ow ds) => some (.nx ((p.2.set j .no).set i (.ow ds)))
        | _ => none
    | .va d => some (.nx (p.2.set i (.va d)))
    | .ow ds => some (.nx (p.2.set i (.ow ds)))) else none
  | .asgT tg e, env => (evE Γ e env).bind fun p => (frz p.2 p.1).bind fun q => (asgT Γ tg q.1 q.2).bind fun e => some (.nx e)
  | .par is es, env => (evEs Γ es env).bind fun p => (frzSl p.2 p.1).bind fun q => (setAll is q.1 q.2).bind fun e => some (.nx e)
  | .ret e, env => (evE Γ e env).bind fun p => match p.1 with
    | .va d => some (.rt (.va d) p.2)
    | .ow ds => some (.rt (.ow ds) p.2)
    | .sl j => match p.2[j]? with
      | some (.ow ds) => some (.rt (.ow ds) (p.2.set j .no))
      | _ => none
  | .retN, env => some (.rt (.va .none) env)
  | .ite c a b, env => (evE Γ c env).bind fun p => (truth p.1).bind fun t => match t with
    | true => exSs a p.2
    | false => exSs b p.2
  | .whl c b, env => whlL (fun e => (evE Γ c e).bind fun p => (truth p.1).bind fun t => some (t, p.2)) (fun e => exSs b e) n env
  | .for_ tg sr b, env => (evS Γ sr env).bind fun p => forL (fun d e => asgT Γ tg d e) (fun e => exSs b e) p.1 p.2
  | .spoil i is, env => if is.length ≤ 100 then (spoilL i is env).bind fun e => some (.nx e) else none
  | .stop, _ => none
  | .pass, env => some (.nx env)
def exSs : Sms → EnvD → Option Out
  | .nil, env => some (.nx env)
  | .cons s ss, env => (exS s env).bind fun o => match o with
    | .nx e => exSs ss e
    | .rt r e => some (.rt r e)
end
/-- the names at a def's entry -/
def env0 (io : Bool) (nl : Nat) (args : List PyData) : EnvD :=
  (match io, args with
    | true, .list ds :: r => .io ds :: r.map .va
    | _, _ => args.map .va) ++ List.replicate (nl - args.length) .no
def outD (io : Bool) (o : Out) : Option (Rv × List PyData) :=
  match o with
  | .nx e => match io with
    | false => some (.va .none, [])
    | true => match e[(0 : Nat)]? with
      | some (.io ds) => some (.va .none, ds)
      | _ => none
  | .rt r e => match io with
    | false => some (r, [])
    | true => match e[(0 : Nat)]? with
      | some (.io ds) => some (r, ds)
      | _ => none
def runD (io : Bool) (nl : Nat) (b : Sms) (args : List PyData) : Option (Rv × List PyData) := (exSs Γ n b (env0 io nl args)).bind (outD io)
end

mutual
/-- the places that a target stores -/
def tgIx : Tg → List Nat
  | .nm i => [i]
  | .tp ts => tgIxs ts
  | .sb _ _ => []
def tgIxs : Tgs → List Nat
  | .nil => []
  | .cons t ts => tgIx t ++ tgIxs ts
end
def tgPlain : Tg → Bool
  | .sb _ _ => false
  | _ => true
/-! ### the reading -/
structure FnI where
  name : Str
  ps : List Str
  shapes : List (Nat × List Str × List Nat)
structure CC where
  N : List Str
  sc : Scope
  ck : List Str
  fns : List FnI
  glb : List (Str × PyData)
  mv : List (Str × Str)
def okNm (x : Str) : Bool := !(x == ("__debug__" : Str)) && !(x == ("__classdict__" : Str))
def slot (c : CC) (x : Str) : Option Nat := match c.sc.names.lookup x with
  | some .local => if okNm x then c.N.idxOf? x else none
  | some .cell => if okNm x then c.N.idxOf? x else none
  | some .free => if okNm x then c.N.idxOf? x else none
  | _ => none
/-- a name that is stored -/
def slotS (c : CC) (x : Str) : Option Nat := match c.sc.names.lookup x with
  | some .local => c.N.idxOf? x
  | some .cell => if c.ck.contains x then c.N.idxOf? x else none
  | _ => none
def isGl (c : CC) (x : Str) : Bool := (match c.sc.names.lookup x with | some .globalImplicit => true | _ => false) && okNm x
def fnAt (x : Str) : List FnI → Nat → Option (Nat × FnI)
  | [], _ => none
  | f :: r, k => if f.name == x then some (k, f) else fnAt x r (k + 1)
def shapeAt (m : Nat) (ks : List Str) : List (Nat × List Str × List Nat) → Option (List Nat)
  | [] => none
  | (a, b, pm) :: r => if a == m && b == ks then some pm else shapeAt m ks r
def biTab : List (Str × Bi) := [("len", .len), ("sum", .sum), ("max", .max), ("min", .min), ("abs", .abs), ("int", .int), ("list", .list), ("tuple", .tuple), ("all", .all), ("any", .any), ("sorted", .sorted), ("divmod", .divmod), ("repr", .repr)]
def biOf (x : Str) : Option Bi := biTab.lookup x
def tyTab : List (Str × Ty) := [("int", .int), ("bool", .bool), ("str", .str), ("list", .list), ("tuple", .tuple), ("dict", .dict)]
def tyOf (x : Str) : Option Ty := tyTab.lookup x
def bopOf : Operator → Option Bop
  | .Add => some .add | .Sub => some .sub | .Mult => some .mul | .FloorDiv => some .fdiv | .Mod => some .md | .Pow => some .pow | _ => none
def copOf : CmpOp → Option Cop
  | .Lt => some .lt | .LtE => some .le | .Gt => some .gt | .GtE => some .ge | .Eq => some .eq | .NotEq => some .ne | _ => none
def cst : Const → Option PyData
  | .none => some .none | .bool b => some (.bool b) | .int i => some (.int i) | .str x => some (.str x) | _ => none
/-- the names that a target stores -/
def tgNames : Nat → Expr → Option (List Str)
  | 0, _ => none
  | _ + 1, .Name x _ => some [x]
  | n + 1, .Tuple es _ _ => (es.mapM (tgNames n)).map List.flatten
  | _, _ => none
def relS' (scope sc : Scope) : Scope := L2.relS scope sc
def tyNames (c : CC) : List Expr → Option (List Ty)
  | [] => some []
  | .Name x _ :: r => if isGl c x then (tyOf x).bind fun t => (tyNames c r).bind fun ts => some (t :: ts) else none
  | _ => none
def kwNames : List Keyword → Option (List Str)
  | [] => some []
  | ⟨some k, _, _⟩ :: r => (kwNames r).bind fun ks => some (k :: ks)
  | _ => none
def kwVals : List Keyword → List Expr
  | [] => []
  | ⟨_, e, _⟩ :: r => e :: kwVals r
def plainArgs : List Expr → Bool
  | [] => true
  | .Starred _ _ :: _ => false
  | _ :: r => plainArgs r

def cVar (c : CC) (x : Str) : Option Ex := match slot c x with
  | some i => some (.var i)
  | none => if isGl c x then (c.glb.lookup x).bind fun d => some (.cst d) else none
def noSet : Expr → Bool
  | .Set _ _ _ => false
  | _ => true
def inC (c : CC) (scope : Scope) : CC := { c with sc := L2.relS scope c.sc, ck := (scope.names.filter fun p => p.2 == .cell).map (·.1) }
/-- names handed to calls or kept in displays -/
def dvE : Exs → List Nat
  | .nil => []
  | .cons (.var i) es => i :: dvE es
  | .cons _ es => dvE es
mutual
def cvE : Ex → List Nat
  | .bin _ a b => cvE a ++ cvE b
  | .neg a => cvE a
  | .cmp _ a b => cvE a ++ cvE b
  | .chn _ _ a b c => cvE a ++ cvE b ++ cvE c
  | .isc _ _ a => cvE a
  | .inn _ a b => cvE a ++ cvE b
  | .and_ a b => cvE a ++ cvE b
  | .or_ a b => cvE a ++ cvE b
  | .not_ a => cvE a
  | .ite c a b => cvE c ++ cvE a ++ cvE b
  | .lst es => dvE es ++ cvEs es
  | .tup es => dvE es ++ cvEs es
  | .idx a i => cvE a ++ cvE i
  | .slc a _ _ => cvE a
  | .rev a => cvE a
  | .call _ es ks _ => dvE es ++ dvE ks ++ cvEs es ++ cvEs ks
  | .bi _ es => cvEs es
  | .isi _ a => cvE a
  | .mth _ a b => cvE a ++ cvE b
  | .comp el _ sr ts _ => cvE el ++ cvS sr ++ cvEs ts
  | .reprL es => cvEs es
  | .zipL a b => cvE a ++ cvE b
  | .lenSet a => cvE a
  | .compO _ el _ ts _ => cvE el ++ cvEs ts
  | .rngL _ es => cvEs es
  | .fz a => cvE a
  | .pre is a => is ++ cvE a
  | _ => []
def cvEs : Exs → List Nat
  | .nil => []
  | .cons e es => cvE e ++ cvEs es
def cvS : Src → List Nat
  | .ex (.var i) => [i]
  | .ex e => cvE e
  | .rng es => cvEs es
  | .enum (.var i) => [i]
  | .enum e => cvE e
  | .zip a b => dvE (.cons a (.cons b .nil)) ++ cvE a ++ cvE b
end
/-- what a comprehension keeps, but for the pot -/
def keepV (N : List Str) (own : List Nat) (x : Ex) (ts : Exs) : List Nat := (cvE x ++ cvEs ts).filter fun i => !own.contains i && !(match N[i]? with | some y => y == ("pot" : Str) | none => true)
def isDsp : Expr → Bool
  | .List _ _ => true
  | _ => false
def withPre (is : List Nat) (e : Ex) : Ex := match is with
  | [] => e
  | is => .pre is e
/-- a list of one's own that is numbered and walked, and stays one's own (told by the pair of its name) -/
def isNmCall : Expr → Bool
  | .Call _ [.Name _ _] _ _ => true
  | _ => false
def keeps (c : CC) (k : Nat) : Bool := match c.N[k]? with
  | some z => c.mv.contains (z, z)
  | none => false
def mkComp (c : CC) (iter : Expr) (x : Ex) (t : Tg) (s : Src) (ts : Exs) (own : List Nat) : Ex := match s with
  | .enum (.var k) => if isNmCall iter && keeps c k then .compO k x t ts own else .comp x t s ts own
  | s => .comp x t s ts own
def withFz (b : Bool) (e : Ex) : Ex := if b then .fz e else e
mutual
def cE : Nat → CC → Expr → Option Ex
  | 0, _, _ => none
  | n + 1, c, e => match e with
    | .Constant v _ _ => (cst v).bind fun d => some (.cst d)
    | .Name x _ => cVar c x
    | .BinOp a op b _ => (bopOf op).bind fun o => (cE n c a).bind fun x => (cE n c b).bind fun y => some (.bin o x y)
    | .UnaryOp op a _ => (match op with
      | .USub => (cE n c a).bind fun x => some (.neg x)
      | .Not => (cE n c a).bind fun x => some (.not_ x)
      | _ => none)
    | .BoolOp op es p => cBl n c op es p
    | .IfExp t a b _ => (cE n c t).bind fun z => (cE n c a).bind fun x => (cE n c b).bind fun y => some (withFz (isDsp a != isDsp b) (.ite z x y))
    | .Compare a ops bs _ => (match ops, bs with
      | [op], [b] => cCmp n c a op b
      | [op, op'], [b, d] => (copOf op).bind fun o => (copOf op').bind fun o' => (cE n c a).bind fun x => (cE n c b).bind fun y => (cE n c d).bind fun z => some (.chn o o' x y z)
      | _, _ => none)
    | .List es _ => if plainArgs es then (cEs n c es).bind fun xs => some (.lst xs) else none
    | .Tuple es _ _ => if plainArgs es then (cEs n c es).bind fun xs => some (.tup xs) else none
    | .Subscript a i _ => cSub n c a i
    | .ListComp elt gs scope _ => (match gs with
      | [⟨tg, iter, ifs, 0⟩] => cLc n c elt tg iter ifs scope
      | _ => none)
    | .Call f args kws cp => (match f with
      | .Name x _ => if isGl c x && plainArgs args then cNm n c x args kws else none
      | .Attribute (.Name x _) m ap => (match kws with
        | [] => if plainArgs args && (ap.endLine == cp.line) then cMt n c x m args else none
        | _ => none)
      | _ => none)
    | _ => none
def cBl : Nat → CC → BoolOp → List Expr → Pos → Option Ex
  | 0, _, _, _, _ => none
  | n + 1, c, op, es, p => match es with
    | [] => none
    | [a] => cE n c a
    | a :: b :: r => (match op with
      | .And => (cE n c a).bind fun x => (cBl n c .And (b :: r) p).bind fun y => some (.and_ x y)
      | .Or => (cE n c a).bind fun x => (cBl n c .Or (b :: r) p).bind fun y => some (.or_ x y))
def cCmp : Nat → CC → Expr → CmpOp → Expr → Option Ex
  | 0, _, _, _, _ => none
  | n + 1, c, a, op, b => match op with
    | .Is => (match b with
      | .Constant .none _ _ => (cE n c a).bind fun x => some (.isc false .none x)
      | .Constant (.bool k) _ _ => (cE n c a).bind fun x => some (.isc false (.bool k) x)
      | _ => none)
    | .IsNot => (match b with
      | .Constant .none _ _ => (cE n c a).bind fun x => some (.isc true .none x)
      | .Constant (.bool k) _ _ => (cE n c a).bind fun x => some (.isc true (.bool k) x)
      | _ => none)
    | .In => if behindInMarks .In b then none else (cE n c a).bind fun x => (cE n c b).bind fun y => some (.inn false x y)
    | .NotIn => if behindInMarks .NotIn b then none else (cE n c a).bind fun x => (cE n c b).bind fun y => some (.inn true x y)
    | op => (copOf op).bind fun o => (cE n c a).bind fun x => (cE n c b).bind fun y => some (.cmp o x y)
def cSub : Nat → CC → Expr → Expr → Option Ex
  | 0, _, _, _ => none
  | n + 1, c, a, i => match i with
    | .Slice lo hi st _ => (match st with
      | none => (cE n c a).bind fun x => (cO n c lo).bind fun l => (cO n c hi).bind fun h => some (.slc x l h)
      | some (.UnaryOp .USub (.Constant (.int 1) _ _) _) => (match lo, hi with
        | none, none => (cE n c a).bind fun x => some (.rev x)
        | _, _ => none)
      | _ => none)
    | i => (cE n c a).bind fun x => (cE n c i).bind fun y => some (.idx x y)
def cLc : Nat → CC → Expr → Expr → Expr → List Expr → Scope → Option Ex
  | 0, _, _, _, _, _, _ => none
  | n + 1, c, elt, tg, iter, ifs, scope => (tgNames 4 tg).bind fun xs => (xs.mapM fun x => c.N.idxOf? x).bind fun own =>
      if L2.blkC c.N c.sc scope (xs.zip own) && decide (xs.length = own.length) && decide (ifs.length ≤ 1) && noSet iter then
        (cSrc n c iter tg).bind fun s => (cT n (inC c scope) tg).bind fun t => (cEs n (inC c scope) ifs).bind fun ts => (cE n (inC c scope) elt).bind fun x => if (tgIx t).all (own.contains ·) then some (withPre (keepV c.N own x ts) (mkComp c iter x t s ts own)) else none
      else none
def cNm : Nat → CC → Str → List Expr → List Keyword → Option Ex
  | 0, _, _, _, _ => none
  | n + 1, c, f, args, kws =>
    if f == ("isinstance" : Str) then (match kws, args with
      | [], [a, .Name t _] => if isGl c t then (tyOf t).bind fun ty => (cE n c a).bind fun x => some (.isi [ty] x) else none
      | [], [a, .Tuple es _ _] => (tyNames c es).bind fun tys => (cE n c a).bind fun x => some (.isi tys x)
      | _, _ => none)
    else match kws, args with
      | [], [.List es _] => if f == ("repr" : Str) then (if plainArgs es then (cEs n c es).bind fun xs => some (.reprL xs) else none) else cCall n c f args kws
      | [], [.Call (.Name g _) bs [] _] => if f == ("list" : Str) && g == ("range" : Str) then (if isGl c g && plainArgs bs then cRg n c false bs else none)
          else if f == ("list" : Str) && g == ("zip" : Str) then (if isGl c f && isGl c g && plainArgs bs then cZp n c bs else none)
          else if f == ("len" : Str) && g == ("set" : Str) then (if isGl c f && isGl c g && plainArgs bs then cLs n c bs else none)
          else if f == ("tuple" : Str) && g == ("range" : Str) then (if isGl c g && plainArgs bs then cRg n c true bs else none)
          else cCall n c f args kws
      | _, _ => cCall n c f args kws
def cRg : Nat → CC → Bool → List Expr → Option Ex
  | 0, _, _, _ => none
  | n + 1, c, tp, bs => match bs with
    | [a] => (cE n c a).bind fun x => some (.rngL tp (.cons x .nil))
    | [a, b] => (cE n c a).bind fun x => (cE n c b).bind fun y => some (.rngL tp (.cons x (.cons y .nil)))
    | _ => none
def cZp : Nat → CC → List Expr → Option Ex
  | 0, _, _ => none
  | n + 1, c, bs => match bs with
    | [a, b] => (cE n c a).bind fun x => (cE n c b).bind fun y => some (.zipL x y)
    | _ => none
def cLs : Nat → CC → List Expr → Option Ex
  | 0, _, _ => none
  | n + 1, c, bs => match bs with
    | [a] => (cE n c a).bind fun x => some (.lenSet x)
    | _ => none
def cMt : Nat → CC → Str → Str → List Expr → Option Ex
  | 0, _, _, _, _ => none
  | n + 1, c, x, m, args => (slot c x).bind fun i => match args with
    | [] => if m == ("pop" : Str) then some (.mut .pop i .nil) else none
    | [a] => (cE n c a).bind fun y =>
      if m == ("append" : Str) then some (.mut .append i (.cons y .nil))
      else if m == ("extend" : Str) then some (.mut .extend i (.cons y .nil))
      else if m == ("pop" : Str) then some (.mut .pop i (.cons y .nil))
      else if m == ("count" : Str) then some (.mth .count (.var i) y)
      else if m == ("index" : Str) then some (.mth .index (.var i) y)
      else none
    | _ => none
def cEs : Nat → CC → List Expr → Option Exs
  | 0, _, _ => none
  | _ + 1, _, [] => some .nil
  | n + 1, c, e :: es => (cE n c e).bind fun x => (cEs n c es).bind fun xs => some (.cons x xs)
def cO : Nat → CC → Option Expr → Option Eo
  | 0, _, _ => none
  | _ + 1, _, none => some .no
  | n + 1, c, some e => (cE n c e).bind fun x => some (.yes x)
def cCall : Nat → CC → Str → List Expr → List Keyword → Option Ex
  | 0, _, _, _, _ => none
  | n + 1, c, f, args, kws => match fnAt f c.fns 0 with
    | some (k, g) => (kwNames kws).bind fun ks => (shapeAt args.length ks g.shapes).bind fun pm => (cEs n c args).bind fun xs => (cEs n c (kwVals kws)).bind fun ys => some (.call k xs ys pm)
    | none => match kws with
      | [] => (biOf f).bind fun b => (match args with
        | [] => none
        | _ => (cEs n c args).bind fun xs => some (.bi b xs))
      | _ => none
def cSrc : Nat → CC → Expr → Expr → Option Src
  | 0, _, _, _ => none
  | n + 1, c, e, tg => match e with
    | .Call (.Name f _) args [] _ => if isGl c f && plainArgs args then
        (if f == ("range" : Str) then (if decide (1 ≤ args.length ∧ args.length ≤ 3) then (cEs n c args).bind fun xs => some (.rng xs) else none)
        else if f == ("enumerate" : Str) then (match args, tg with
          | [a], .Tuple _ _ _ => (cE n c a).bind fun x => some (.enum x)
          | _, _ => none)
        else if f == ("zip" : Str) then (match args, tg with
          | [a, b], .Tuple _ _ _ => (cE n c a).bind fun x => (cE n c b).bind fun y => some (.zip x y)
          | _, _ => none)
        else (cE n c e).bind fun x => some (.ex x)) else none
    | e => (cE n c e).bind fun x => some (.ex x)
def cT : Nat → CC → Expr → Option Tg
  | 0, _, _ => none
  | n + 1, c, e => match e with
    | .Name x _ => (slotS c x).bind fun i => some (.nm i)
    | .Tuple es _ _ => if plainArgs es then (cTs n c es).bind fun ts => some (.tp ts) else none
    | .Subscript (.Name x _) (.Slice _ _ _ _) _ => none
    | .Subscript (.Name x _) ix _ => (slot c x).bind fun i => (cE n c ix).bind fun y => some (.sb i y)
    | _ => none
def cTs : Nat → CC → List Expr → Option Tgs
  | 0, _, _ => none
  | _ + 1, _, [] => some .nil
  | n + 1, c, e :: es => (cT n c e).bind fun t => (cTs n c es).bind fun ts => some (.cons t ts)
end
/-- names alone -/
def nameList : List Expr → Option (List Str)
  | [] => some []
  | .Name x _ :: r => (nameList r).bind fun xs => some (x :: xs)
  | _ => none
def isFnSc (sc : Scope) : Bool := match sc.kind with
  | .function => true
  | _ => false
def isComp : Expr → Bool
  | .ListComp _ _ _ _ => true
  | .SetComp _ _ _ _ => true
  | .DictComp _ _ _ _ _ => true
  | _ => false
/-- a comprehension's value is stored within it, or behind it -/
def swapOk (c : CC) (x : Str) (p lp : Pos) (scope : Scope) : Bool := isFnSc c.sc && (match c.sc.names.lookup x with
  | some .local => (p.line == lp.line) && !(scope.names.any fun (n, k) => n == x && (k == .local || k == .cell))
  | some .cell => true
  | _ => false)
/-- how a, b = x, y is stored -/
def swapR (sc : Scope) (ts vs : List Expr) : Option (Option (List Str)) :=
  if (!(ts.length == 2 || ts.length == 3) || vs.length != ts.length) = true then some none
  else if (vs.any fun | .Starred .. => true | _ => false) = true then some none
  else
    let line := (ts.head?.map (·.pos.line)).getD 0
    let names := ts.filterMap fun
      | .Name id pos => if sc.names.lookup id == some .local && pos.line == line then some id else none
      | _ => none
    if (names.length != ts.length || names.eraseDups.length != names.length) = true then some none
    else if vs.all (foldedForSure 8) = true then some none
    else if vs.all (constantsAlone 8) = true then none
    else some (some names)
def varsOf : Exs → Option (List Nat)
  | .nil => some []
  | .cons (.var j) r => (varsOf r).bind fun js => some (j :: js)
  | _ => none
def isApp (i : Nat) : Ex → Bool
  | .mut .append j (.cons (.cst .none) .nil) => j == i
  | _ => false
def cSpoil (c : CC) (tg it : Expr) (b : List Stmt) : Option Sm := match tg, it, b with
  | .Name x _, .Tuple es _ _, [.Expr e _] => if plainArgs es && !isComp e then (slotS c x).bind fun i => (cEs 60 c es).bind fun xs => (varsOf xs).bind fun is => (cE 60 c e).bind fun a => if isApp i a then some (.spoil i is) else none else none
  | _, _, _ => none
/-- values of several names; a list of a name marked "*" stays from the start -/
def cEz (c : CC) : List Str → List Expr → Option Exs
  | _, [] => some .nil
  | x :: xs, e :: es => (cE 60 c e).bind fun y => (cEz c xs es).bind fun ys => some (.cons (withFz (c.mv.contains (x, ("*" : Str))) y) ys)
  | [], _ :: _ => none
mutual
def cS : Nat → CC → Stmt → Option Sm
  | 0, _, _ => none
  | n + 1, c, s => match s with
    | .Expr e _ => if isComp e then none else (cE 60 c e).bind fun x => some (.exp x)
    | .Assign tgs e q => (match tgs with
      | [.Name x p] => (slotS c x).bind fun i => (match e with
        | .ListComp _ gs scope lp => if swapOk c x p lp scope then (cE 60 c e).bind fun y => some (.asg i y false) else none
        | .Name z _ => (cE 60 c e).bind fun y => some (.asg i y (c.mv.contains (x, z)))
        | e => if isComp e then none else (cE 60 c e).bind fun y => some (.asg i y false))
      | [.Tuple ts k p] => (match e with
        | .Tuple vs _ _ => if plainArgs vs && isFnSc c.sc then (nameList ts).bind fun xs => (swapR c.sc ts vs).bind fun sw => if decide xs.Nodup && decide (xs.length = vs.length) && decide (xs.length ≤ 100) then (xs.mapM (slotS c)).bind fun is => (cEz c xs vs).bind fun es => some (.par is es) else none
          else none
        | e => if isComp e then none else (cT 60 c (.Tuple ts k p)).bind fun t => (cE 60 c e).bind fun y => some (.asgT t y))
      | [.Subscript o ix p] => if isComp e then none else (cT 60 c (.Subscript o ix p)).bind fun t => (cE 60 c e).bind fun y => some (.asgT t y)
      | _ => none)
    | .Return v _ => (match v with
      | some e => (cE 60 c e).bind fun x => some (.ret x)
      | none => some .retN)
    | .If t a b _ => (cE 60 c t).bind fun z => (cSs n c a).bind fun x => (cSs n c b).bind fun y => some (.ite z x y)
    | .While t b o _ => (match o with
      | [] => (cE 60 c t).bind fun z => (cSs n c b).bind fun x => some (.whl z x)
      | _ => none)
    | .For tg it b o _ => (match o with
      | [] => if (cSpoil c tg it b).isSome then cSpoil c tg it b else if noSet it then (cSrc 60 c it tg).bind fun s => (cT 60 c tg).bind fun t => (cSs n c b).bind fun x => some (.for_ t s x) else none
      | _ => none)
    | .Raise _ _ _ => some .stop
    | .Pass _ => some .pass
    | _ => none
def cSs : Nat → CC → List Stmt → Option Sms
  | 0, _, _ => none
  | _ + 1, _, [] => some .nil
  | n + 1, c, s :: ss => (cS n c s).bind fun x => (cSs n c ss).bind fun xs => some (.cons x xs)
end
end Pd

/-! the small language's operations are the text's -/
namespace Pd
open PySem PySem.Spec PyProof.Rows L2

def TEok (K : PySem.W.Frag) (t : TE) (f : EnvD → Option (Opd × EnvD)) : Prop :=
  ∀ (R : RR) (G0 G H : Hp) (env : EnvD) (σ : L2.St) (tmp : Tmp) (o : Opd) (env' : EnvD) (Q : VK), SR K R G0 G H env σ tmp → f env = some (o, env') → (∀ v G' H', Same G G' → SR K R G0 G' H' env' σ ((o, v) :: tmp) → Q v H') → t σ H Q
def TTok (K : PySem.W.Frag) (t : TT) (f : EnvD → Option (Bool × EnvD)) : Prop :=
  ∀ (R : RR) (G0 G H : Hp) (env : EnvD) (σ : L2.St) (tmp : Tmp) (b : Bool) (env' : EnvD) (Q : Bool → Hp → Prop), SR K R G0 G H env σ tmp → f env = some (b, env') → (∀ G' H', Same G G' → SR K R G0 G' H' env' σ tmp → Q b H') → t σ H Q
def TAok (K : PySem.W.Frag) (t : TA) (f : EnvD → Option (List Opd × EnvD)) : Prop :=
  ∀ (R : RR) (G0 G H : Hp) (env : EnvD) (σ : L2.St) (tmp : Tmp) (os : List Opd) (env' : EnvD) (Q : List V → Hp → Prop), SR K R G0 G H env σ tmp → f env = some (os, env') → (∀ vs G' H', os.length = vs.length → Same G G' → SR K R G0 G' H' env' σ (os.zip vs ++ tmp) → Q vs H') → t σ H Q
def TOok (K : PySem.W.Frag) (t : TO) (f : EnvD → Option (Option Int × EnvD)) : Prop :=
  ∀ (R : RR) (G0 G H : Hp) (env : EnvD) (σ : L2.St) (tmp : Tmp) (o : Option Int) (env' : EnvD) (Q : Option Int → Hp → Prop), SR K R G0 G H env σ tmp → f env = some (o, env') → (∀ G' H', Same G G' → SR K R G0 G' H' env' σ tmp → Q o H') → t σ H Q
/-- a two-place operation on values -/
def OpOk (K : PySem.W.Frag) (r : R2) (f : PyData → PyData → Option Rv) : Prop :=
  ∀ (R : RR) (G0 G H : Hp) (env : EnvD) (σ : L2.St) (tmp : Tmp) (o1 o2 : Opd) (v1 v2 : V) (d1 d2 : PyData) (z : Rv) (Q : VK), SR K R G0 G H env σ tmp → OpdR K G H σ o1 v1 → OpdR K G H σ o2 v2 → res env o1 = some d1 → res env o2 = some d2 → f d1 d2 = some z →
    (∀ v G' H', Same G G' → SR K R G0 G' H' env σ ((z.opd, v) :: tmp) → Q v H') → r v1 v2 H Q
/-- a call on values -/
def CallOk (K : PySem.W.Frag) (r : List V → Hp → VK → Prop) (f : List PyData → Option Rv) : Prop :=
  ∀ (R : RR) (G0 G H : Hp) (env : EnvD) (σ : L2.St) (tmp : Tmp) (os : List Opd) (vs : List V) (ds : List PyData) (z : Rv) (Q : VK), SR K R G0 G H env σ (os.zip vs ++ tmp) → os.length = vs.length → ress env os = some ds → f ds = some z →
    (∀ v G' H', Same G G' → SR K R G0 G' H' env σ ((z.opd, v) :: tmp) → Q v H') → r vs H Q

section
variable {K : PySem.W.Frag} {R : RR} {G0 G H : Hp} {env env' : EnvD} {σ : L2.St} {tmp : Tmp} {o : Opd} {v : V} {d : PyData}

theorem SR.drop2 {p q r : Opd × V} (S : SR K R G0 G H env σ (p :: q :: r :: tmp)) : SR K R G0 G H env σ (p :: tmp) :=
  S.sub ((List.Sublist.cons _ (List.Sublist.cons _ (List.Sublist.refl tmp))).cons₂ p)
theorem SR.drop1 {p q : Opd × V} (S : SR K R G0 G H env σ (p :: q :: tmp)) : SR K R G0 G H env σ (p :: tmp) :=
  S.sub ((List.Sublist.cons _ (List.Sublist.refl tmp)).cons₂ p)
theorem SR.top {p : Opd × V} (S : SR K R G0 G H env σ (p :: tmp)) : OpdR K G H σ p.1 p.2 := S.tm _ List.mem_cons_self
theorem SR.under {p q : Opd × V} (S : SR K R G0 G H env σ (p :: q :: tmp)) : OpdR K G H σ q.1 q.2 := S.tm _ (List.mem_cons_of_mem _ List.mem_cons_self)

theorem ok_cst {c : V} (h : ∀ G, Rp K G c d) : TEok K (tC c) (fun env => some (.va d, env)) := by
  intro R G0 G H env σ tmp o env' Q S e q
  cases e
  exact q c G H (Same.refl _) (S.pushVa (h G))
theorem ok_var {i : Nat} : TEok K (tVar i) (fun env => match env[i]? with
    | some (.va d) => some (.va d, env)
    | some (.ow _) => some (.sl i, env)
    | some (.io _) => some (.sl i, env)
    | _ => none) := by
  intro R G0 G H env σ tmp o env' Q S e q
  dsimp only at e
  split at e
  · rename_i d h
    cases e
    obtain ⟨v, e1, r⟩ := S.slot i _ h
    exact ⟨v, e1, q v G H (Same.refl _) (S.pushVa r)⟩
  · rename_i ds h
    cases e
    obtain ⟨a, xs, e1, e2, r⟩ := S.slot i _ h
    exact ⟨_, e1, q _ G H (Same.refl _) (S.pushSl e1)⟩
  · rename_i ds h
    cases e
    obtain ⟨a, xs, e1, e2, r⟩ := S.slot i _ h
    exact ⟨_, e1, q _ G H (Same.refl _) (S.pushSl e1)⟩
  · cases e

theorem ok_op {r : R2} {f : PyData → PyData → Option Rv} {ta tb : TE} {fa fb : EnvD → Option (Opd × EnvD)} (hr : OpOk K r f) (ha : TEok K ta fa) (hb : TEok K tb fb) :
    TEok K (tOp r ta tb) (fun env => (fa env).bind fun p => (fb p.2).bind fun q => (res q.2 p.1).bind fun x => (res q.2 q.1).bind fun y => (f x y).bind fun r => some (r.opd, q.2)) := by
  intro R G0 G H env σ tmp o env' Q S e q
  simp only [Option.bind_eq_some_iff] at e
  obtain ⟨⟨o1, e1⟩, h1, ⟨o2, e2⟩, h2, d1, r1, d2, r2, z, hz, e⟩ := e
  cases e
  refine ha _ _ _ _ _ _ _ _ _ _ S h1 fun v1 G1 H1 g1 S1 => ?_
  refine hb _ _ _ _ _ _ _ _ _ _ S1 h2 fun v2 G2 H2 g2 S2 => ?_
  exact hr _ _ _ _ _ _ _ _ _ _ _ _ _ _ _ S2 S2.under S2.top r1 r2 hz fun v G' H' g S3 => q v G' H' (g1.trans (g2.trans g)) S3.drop2
/-- an operation whose answer is a truth value -/
theorem ok_opB {r : R2} {f : PyData → PyData → Option Bool} {ta tb : TE} {fa fb : EnvD → Option (Opd × EnvD)} (hr : OpOk K r (fun x y => (f x y).map fun b => .va (.bool b))) (ha : TEok K ta fa) (hb : TEok K tb fb) :
    TEok K (tOp r ta tb) (fun env => (fa env).bind fun p => (fb p.2).bind fun q => (res q.2 p.1).bind fun x => (res q.2 q.1).bind fun y => (f x y).bind fun r => some (.va (.bool r), q.2)) := by
  intro R G0 G H env σ tmp o env' Q S e q
  refine ok_op hr ha hb _ _ _ _ _ _ _ _ _ _ S ?_ q
  simp only [Option.bind_eq_some_iff] at e ⊢
  obtain ⟨p1, h1, p2, h2, d1, r1, d2, r2, z, hz, e⟩ := e
  exact ⟨p1, h1, p2, h2, d1, r1, d2, r2, .va (.bool z), by rw [hz]; rfl, e⟩

theorem OpOk.or {r r' : R2} {f g : PyData → PyData → Option Rv} (h : OpOk K r f) (h' : OpOk K r' g) (hfg : ∀ x y z, g x y = some z → f x y = none) : OpOk K (fun x y H Q => r x y H Q ∨ r' x y H Q) (fun x y => (f x y).or (g x y)) := by
  intro R G0 G H env σ tmp o1 o2 v1 v2 d1 d2 z Q S t1 t2 e1 e2 e q
  cases hf : f d1 d2 with
  | some w =>
    simp only [hf, Option.or_some] at e
    cases e
    exact .inl (h _ _ _ _ _ _ _ _ _ _ _ _ _ _ _ S t1 t2 e1 e2 hf q)
  | none =>
    simp only [hf, Option.none_or] at e
    exact .inr (h' _ _ _ _ _ _ _ _ _ _ _ _ _ _ _ S t1 t2 e1 e2 e q)
theorem OpOk.imp {r : R2} {f g : PyData → PyData → Option Rv} (h : OpOk K r f) (e : ∀ x y z, g x y = some z → f x y = some z) : OpOk K r g := by
  intro R G0 G H env σ tmp o1 o2 v1 v2 d1 d2 z Q S t1 t2 e1 e2 hz q
  exact h _ _ _ _ _ _ _ _ _ _ _ _ _ _ _ S t1 t2 e1 e2 (e _ _ _ hz) q

theorem Rp.intI {i : Int} (h : Rp K G v (.int i)) : v = .int i := by cases h; rfl
theorem Rp.boolI {b : Bool} (h : Rp K G v (.bool b)) : v = .bl b := by cases h; rfl
theorem Rp.noneI (h : Rp K G v .none) : v = .non := by cases h; rfl
theorem Rp.strI {x : Str} (h : Rp K G v (.str x)) : v = .str x := by cases h; rfl
theorem Rp.listI {ds : List PyData} (h : Rp K G v (.list ds)) : ∃ a xs, v = .ref a ∧ G a = some (.lst xs) ∧ RpAll K G xs ds := by cases h; exact ⟨_, _, rfl, by assumption, by assumption⟩
theorem Rp.tupI {ds : List PyData} (h : Rp K G v (.tuple ds)) : ∃ a xs, v = .ref a ∧ G a = some (.tup xs) ∧ RpAll K G xs ds := by cases h; exact ⟨_, _, rfl, by assumption, by assumption⟩

/-- ints -/
theorem ok_ints {r : R2} {f : PyData → PyData → Option Rv} (h : ∀ (x y : PyData) (z : Rv), f x y = some z → ∃ i j d, x = .int i ∧ y = .int j ∧ z = .va d ∧ ∀ H Q, (∀ v, (∀ G, Rp K G v d) → Q v H) → r (.int i) (.int j) H Q) : OpOk K r f := by
  intro R G0 G H env σ tmp o1 o2 v1 v2 d1 d2 z Q S t1 t2 e1 e2 hz q
  obtain ⟨i, j, d, rfl, rfl, rfl, hh⟩ := h _ _ _ hz
  have z1 := (S.res t1 e1).intI
  have z2 := (S.res t2 e2).intI
  subst z1
  subst z2
  exact hh H Q fun v hv => q v G H (Same.refl _) (S.pushVa (hv G))

theorem line_eq : sizeLine = 16777216 := sizeLine_eq

def rAddD (K : PySem.W.Frag) : R2 := fun x y H Q => (rI0 (fun i j => .int (i + j)) x y H Q ∨ rCat x y H Q) ∨ rCatA K x y H Q
theorem ok_add : OpOk K (rAddD K) (binD .add) := by
  intro R G0 G H env σ tmp o1 o2 v1 v2 d1 d2 z Q S t1 t2 e1 e2 hz q
  have hl := line_eq
  unfold binD at hz
  split at hz <;> try contradiction
  · cases hz
    have z1 := (S.res t1 e1).intI
    have z2 := (S.res t2 e2).intI
    subst z1
    subst z2
    exact .inl (.inl ⟨_, _, rfl, rfl, q _ G H (Same.refl _) (S.pushVa (.int _))⟩)
  · rename_i xs ys
    split at hz
    · rename_i hle
      cases hz
      obtain ⟨a, us, rfl, ha, ra⟩ := S.resL t1 e1
      obtain ⟨b, ws, rfl, hb, rb⟩ := S.resL t2 e2
      refine .inl (.inr ⟨a, b, us, ws, rfl, rfl, ha, hb, by rw [ra.len, rb.len, hl]; exact hle, fun p hp => ?_⟩)
      exact q _ G _ (Same.refl _) (S.newL hp (ra.app rb))
    · cases hz
  · rename_i xs ys
    split at hz
    · rename_i hle
      cases hz
      have T1 := S.resT t1 e1 (fun ds => by intro z; cases z)
      have T2 := S.resT t2 e2 (fun ds => by intro z; cases z)
      obtain ⟨a, us, rfl, ha, ra⟩ := T1.tupI
      obtain ⟨b, ws, rfl, hb, rb⟩ := T2.tupI
      refine .inr ⟨a, b, us, ws, rfl, rfl, SqT.of (S.gh _ _ ha), SqT.of (S.gh _ _ hb), by rw [ra.len, rb.len, hl]; exact hle, fun e => ?_, fun _ e => ?_, fun _ _ p hp => ?_⟩
      · subst e
        cases ra
        exact q _ G H (Same.refl _) (S.pushVa T2)
      · subst e
        cases rb
        rw [List.append_nil] at q
        exact q _ G H (Same.refl _) (S.pushVa T1)
      · obtain ⟨S', g⟩ := S.newT hp (ra.app rb)
        exact q _ _ _ g S'
    · cases hz
theorem op_addD {X : Cx} : OpR X (binaryOp .Add) (rAddD X.K) := (op_add.or op_cat).or op_catA
theorem ok_sub : OpOk K (rI0 fun i j => .int (i - j)) (binD .sub) := ok_ints fun x y z h => by
  unfold binD at h
  split at h <;> first | cases h | skip
  all_goals first | contradiction | skip
  exact ⟨_, _, _, rfl, rfl, rfl, fun H Q q => ⟨_, _, rfl, rfl, q _ fun G => .int _⟩⟩
def rMulD : R2 := fun x y H Q => rI CMulW (fun i j => .int (i * j)) x y H Q ∨ rRep x y H Q
theorem op_mulD {X : Cx} : OpR X (binaryOp .Mult) rMulD := op_mulW.or op_rep
theorem ok_mul : OpOk K rMulD (binD .mul) := by
  intro R G0 G H env σ tmp o1 o2 v1 v2 d1 d2 z Q S t1 t2 e1 e2 hz q
  have hl := line_eq
  unfold binD at hz
  split at hz <;> first | contradiction | skip
  · split at hz
    · rename_i hm
      cases hz
      have z1 := (S.res t1 e1).intI
      have z2 := (S.res t2 e2).intI
      subst z1
      subst z2
      unfold mulOk at hm
      simp only [decide_eq_true_eq] at hm
      exact .inl ⟨_, _, rfl, rfl, hm, q _ G H (Same.refl _) (S.pushVa (.int _))⟩
    · cases hz
  · rename_i xs k _
    split at hz
    · rename_i hle
      cases hz
      obtain ⟨a, us, rfl, ha, ra⟩ := S.resL t1 e1
      have z2 := (S.res t2 e2).intI
      subst z2
      refine .inr ⟨a, k, us, rfl, rfl, ha, by omega, by omega, by rw [ra.len, hl]; exact hle.2.2, fun p hp => ?_⟩
      exact q _ G _ (Same.refl _) (S.newL hp (ra.rep _))
    · cases hz
theorem ok_fdiv : OpOk K (rI CDivW fun i j => .int (i / j)) (binD .fdiv) := ok_ints fun x y z h => by
  unfold binD at h
  split at h <;> first | contradiction | skip
  split at h
  · rename_i hd
    cases h
    unfold divOk at hd
    simp only [Bool.and_eq_true, decide_eq_true_eq] at hd
    exact ⟨_, _, _, rfl, rfl, rfl, fun H Q q => ⟨_, _, rfl, rfl, hd, q _ fun G => .int _⟩⟩
  · cases h
theorem ok_md : OpOk K (rI (fun _ j => 0 < j) fun i j => .int (i % j)) (binD .md) := ok_ints fun x y z h => by
  unfold binD at h
  split at h <;> first | contradiction | skip
  split at h
  · rename_i hd
    cases h
    exact ⟨_, _, _, rfl, rfl, rfl, fun H Q q => ⟨_, _, rfl, rfl, hd, q _ fun G => .int _⟩⟩
  · cases h
theorem ok_pow : OpOk K (rI CPow fun i j => .int (i ^ j.toNat)) (binD .pow) := ok_ints fun x y z h => by
  unfold binD at h
  split at h <;> first | contradiction | skip
  split at h
  · rename_i hd
    cases h
    exact ⟨_, _, _, rfl, rfl, rfl, fun H Q q => ⟨_, _, rfl, rfl, hd, q _ fun G => .int _⟩⟩
  · cases h

/-! ### comparisons -/
def mapB (f : PyData → PyData → Option Bool) : PyData → PyData → Option Rv := fun x y => (f x y).map fun b => .va (.bool b)
theorem ok_cmpI {g : Int → Int → Bool} {c : Cop} (hc : ∀ x y b, cmpD c x y = some b → ∃ i j, x = .int i ∧ y = .int j ∧ b = g i j) : OpOk K (rI0 fun i j => .bl (g i j)) (mapB (cmpD c)) := ok_ints fun x y z h => by
  unfold mapB at h
  rw [Option.map_eq_some_iff] at h
  obtain ⟨b, h1, h2⟩ := h
  subst h2
  obtain ⟨i, j, rfl, rfl, rfl⟩ := hc _ _ _ h1
  exact ⟨i, j, _, rfl, rfl, rfl, fun H Q q => ⟨i, j, rfl, rfl, q _ fun G => .bl _⟩⟩
theorem ok_lt : OpOk K (rI0 fun i j => .bl (decide (i < j))) (mapB (cmpD .lt)) := ok_cmpI fun x y b h => by
  unfold cmpD at h
  split at h <;> first | contradiction | (cases h; exact ⟨_, _, rfl, rfl, rfl⟩)
theorem ok_le : OpOk K (rI0 fun i j => .bl (decide (i ≤ j))) (mapB (cmpD .le)) := ok_cmpI fun x y b h => by
  unfold cmpD at h
  split at h <;> first | contradiction | (cases h; exact ⟨_, _, rfl, rfl, rfl⟩)
theorem ok_gt : OpOk K (rI0 fun i j => .bl (decide (j < i))) (mapB (cmpD .gt)) := ok_cmpI (g := fun i j => decide (j < i)) fun x y b h => by
  unfold cmpD at h
  split at h <;> first | contradiction | (cases h; exact ⟨_, _, rfl, rfl, rfl⟩)
theorem ok_ge : OpOk K (rI0 fun i j => .bl (decide (j ≤ i))) (mapB (cmpD .ge)) := ok_cmpI (g := fun i j => decide (j ≤ i)) fun x y b h => by
  unfold cmpD at h
  split at h <;> first | contradiction | (cases h; exact ⟨_, _, rfl, rfl, rfl⟩)
theorem lay_of_shaped (h : SeqAt.shaped d = true) : d.canLay0 = true := SeqAt.canLay_of_shaped h
theorem ok_eq : OpOk K (fun x y H Q => rEq x y H Q ∨ rEqD K x y H Q) (mapB (cmpD .eq)) := by
  intro R G0 G H env σ tmp o1 o2 v1 v2 d1 d2 z Q S t1 t2 e1 e2 hz q
  unfold mapB at hz
  rw [Option.map_eq_some_iff] at hz
  obtain ⟨b, h1, h2⟩ := hz
  subst h2
  have p1 := S.res t1 e1
  have p2 := S.res t2 e2
  have gen : (if (SeqAt.shaped d1 && SeqAt.shaped d2) = true then some (PyData.eqv d1 d2) else none) = some b → rEq v1 v2 H Q ∨ rEqD K v1 v2 H Q := fun h1 => by
    split at h1
    · rename_i hs
      cases h1
      simp only [Bool.and_eq_true] at hs
      exact .inr ⟨d1, d2, p1.dp _ (lay_of_shaped hs.1), p2.dp _ (lay_of_shaped hs.2), hs.1, hs.2, q _ G H (Same.refl _) (S.pushVa (.bl _))⟩
    · cases h1
  unfold cmpD at h1
  split at h1 <;> first | contradiction | exact gen h1 | skip
  · cases h1
    have z1 := p1.strI
    have z2 := p2.strI
    subst z1
    subst z2
    refine .inl ⟨rfl, ?_⟩
    rename_i i j _
    rw [show decide (V.str i = V.str j) = decide (i = j) by simp]
    exact q _ G H (Same.refl _) (S.pushVa (.bl _))
theorem ok_ne : OpOk K (fun x y H Q => rNe x y H Q ∨ rNeD K x y H Q) (mapB (cmpD .ne)) := by
  intro R G0 G H env σ tmp o1 o2 v1 v2 d1 d2 z Q S t1 t2 e1 e2 hz q
  unfold mapB at hz
  rw [Option.map_eq_some_iff] at hz
  obtain ⟨b, h1, h2⟩ := hz
  subst h2
  have p1 := S.res t1 e1
  have p2 := S.res t2 e2
  have gen : (if (SeqAt.shaped d1 && SeqAt.shaped d2) = true then some (!PyData.eqv d1 d2) else none) = some b → rNe v1 v2 H Q ∨ rNeD K v1 v2 H Q := fun h1 => by
    split at h1
    · rename_i hs
      cases h1
      simp only [Bool.and_eq_true] at hs
      exact .inr ⟨d1, d2, p1.dp _ (lay_of_shaped hs.1), p2.dp _ (lay_of_shaped hs.2), hs.1, hs.2, q _ G H (Same.refl _) (S.pushVa (.bl _))⟩
    · cases h1
  unfold cmpD at h1
  split at h1 <;> first | contradiction | exact gen h1 | skip
  · cases h1
    have z1 := p1.strI
    have z2 := p2.strI
    subst z1
    subst z2
    refine .inl ⟨rfl, ?_⟩
    rename_i i j _
    rw [show decide (V.str i = V.str j) = decide (i = j) by simp]
    exact q _ G H (Same.refl _) (S.pushVa (.bl _))
def rCmp (K : PySem.W.Frag) : Cop → R2
  | .lt => rI0 fun i j => .bl (decide (i < j))
  | .le => rI0 fun i j => .bl (decide (i ≤ j))
  | .gt => rI0 fun i j => .bl (decide (j < i))
  | .ge => rI0 fun i j => .bl (decide (j ≤ i))
  | .eq => fun x y H Q => rEq x y H Q ∨ rEqD K x y H Q
  | .ne => fun x y H Q => rNe x y H Q ∨ rNeD K x y H Q
theorem ok_cmp (c : Cop) : OpOk K (rCmp K c) (mapB (cmpD c)) := by
  cases c
  · exact ok_lt
  · exact ok_le
  · exact ok_gt
  · exact ok_ge
  · exact ok_eq
  · exact ok_ne
def Cop.py : Cop → CmpOp
  | .lt => .Lt | .le => .LtE | .gt => .Gt | .ge => .GtE | .eq => .Eq | .ne => .NotEq
theorem op_cmpD {X : Cx} (hu : X.A.units + 64 < cLine) (c : Cop) : OpR X (compareOp c.py) (rCmp X.K c) := by
  cases c
  · exact op_lt
  · exact op_le
  · exact op_gt
  · exact op_ge
  · exact L2.op_eq.or (op_eqD hu)
  · exact L2.op_ne.or (op_neD hu)
theorem copOf_py {op : CmpOp} {c : Cop} (h : copOf op = some c) : op = c.py := by
  cases op <;> first | contradiction | (cases h; rfl)

/-- a op b op' c -/
theorem ok_chain {r r' : R2} {f g : PyData → PyData → Option Bool} {ta tb tc : TE} {fa fb fc : EnvD → Option (Opd × EnvD)} (hr : OpOk K r (mapB f)) (hr' : OpOk K r' (mapB g)) (ha : TEok K ta fa) (hb : TEok K tb fb) (hc : TEok K tc fc) :
    TEok K (tChain r r' ta tb tc) (fun env => (fa env).bind fun p => (fb p.2).bind fun q => (res q.2 p.1).bind fun x => (res q.2 q.1).bind fun y => (f x y).bind fun r => match r with
    | true => (fc q.2).bind fun w => (res w.2 q.1).bind fun y => (res w.2 w.1).bind fun z => (g y z).bind fun r => some (.va (.bool r), w.2)
    | false => some (.va (.bool false), q.2)) := by
  intro R G0 G H env σ tmp o env' Q S e q
  simp only [Option.bind_eq_some_iff] at e
  obtain ⟨⟨o1, e1⟩, h1, ⟨o2, e2⟩, h2, d1, r1, d2, r2, z, hz, e⟩ := e
  refine ha _ _ _ _ _ _ _ _ _ _ S h1 fun v1 G1 H1 g1 S1 => ?_
  refine hb _ _ _ _ _ _ _ _ _ _ S1 h2 fun v2 G2 H2 g2 S2 => ?_
  refine hr _ _ _ _ _ _ _ _ _ _ _ _ _ (.va (.bool z)) _ S2 S2.under S2.top r1 r2 (by unfold mapB; rw [hz]; rfl) fun v G3 H3 g3 S3 => ?_
  have ev : v = .bl z := Rp.boolI (K := K) (G := G3) S3.top
  subst ev
  refine ⟨z, rfl, ?_⟩
  cases z with
  | false =>
    dsimp only at e
    cases e
    rw [if_neg Bool.false_ne_true]
    exact q _ G3 H3 (g1.trans (g2.trans g3)) S3.drop2
  | true =>
    dsimp only at e
    simp only [Option.bind_eq_some_iff] at e
    obtain ⟨⟨o3, e3⟩, h3, d3, r3, d4, r4, w, hw, e⟩ := e
    cases e
    rw [if_pos rfl]
    refine hc _ _ _ _ _ _ _ _ _ _ S3.pop h3 fun v4 G4 H4 g4 S4 => ?_
    refine hr' _ _ _ _ _ _ _ _ _ _ _ _ _ (.va (.bool w)) _ S4 S4.under S4.top r3 r4 (by unfold mapB; rw [hw]; rfl) fun v G5 H5 g5 S5 => ?_
    exact q v G5 H5 (g1.trans (g2.trans (g3.trans (g4.trans g5)))) (S5.drop2.drop1)

/-- is None, True, False -/
def rIsD (c : PyData) (ng : Bool) : V → Hp → VK → Prop := fun x H Q => ∃ b, (match c with
  | .none => ∃ k, k = decide (x = .non) ∧ b = (if ng then !k else k)
  | .bool k => ∃ j, x = .bl j ∧ b = (if ng then !decide (j = k) else decide (j = k))
  | _ => False) ∧ Q (.bl b) H
theorem ok_isc {c : PyData} {ng : Bool} {r : R2} {ta tc : TE} {cv : V} {fa : EnvD → Option (Opd × EnvD)} (ha : TEok K ta fa) (htc : tc = tC cv)
    (hr : ∀ d b (v : V) (G H : Hp) (Q : VK), isD ng c d = some b → Rp K G v d → Q (.bl b) H → r v cv H Q) :
    TEok K (tOp r ta tc) (fun env => (fa env).bind fun p => match p.1 with
    | .va d => (isD ng c d).bind fun r => some (.va (.bool r), p.2)
    | _ => none) := by
  intro R G0 G H env σ tmp o env' Q S e q
  subst htc
  simp only [Option.bind_eq_some_iff] at e
  obtain ⟨⟨o1, e1⟩, h1, e⟩ := e
  cases o1 with
  | va d =>
    dsimp only at e
    simp only [Option.bind_eq_some_iff] at e
    obtain ⟨b, hb, e⟩ := e
    cases e
    refine ha _ _ _ _ _ _ _ _ _ _ S h1 fun v1 G1 H1 g1 S1 => ?_
    exact hr d b v1 G1 H1 Q hb S1.top (q _ G1 H1 g1 (S1.pop.pushVa (.bl b)))
  | ow ds => cases e
  | sl i => cases e

/-! ### in -/
theorem allInts_eq : ∀ {ds : List PyData} {ns : List Int}, allInts ds = some ns → ds = ns.map PyData.int
  | [], ns, h => by cases h; rfl
  | .int i :: r, ns, h => by
    unfold allInts at h
    rw [Option.map_eq_some_iff] at h
    obtain ⟨ms, h1, h2⟩ := h
    subst h2
    rw [allInts_eq h1]
    rfl
  | .none :: r, ns, h => by cases h
  | .bool _ :: r, ns, h => by cases h
  | .str _ :: r, ns, h => by cases h
  | .list _ :: r, ns, h => by cases h
  | .tuple _ :: r, ns, h => by cases h
  | .dict _ :: r, ns, h => by cases h
theorem allInts_map (ns : List Int) : allInts (ns.map PyData.int) = some ns := by
  induction ns with
  | nil => rfl
  | cons n ns ih =>
    show (allInts (ns.map PyData.int)).map (n :: ·) = _
    rw [ih]
    rfl
theorem allBools_eq : ∀ {ds : List PyData} {ns : List Bool}, allBools ds = some ns → ds = ns.map PyData.bool
  | [], ns, h => by cases h; rfl
  | .bool i :: r, ns, h => by
    unfold allBools at h
    rw [Option.map_eq_some_iff] at h
    obtain ⟨ms, h1, h2⟩ := h
    subst h2
    rw [allBools_eq h1]
    rfl
  | .none :: r, ns, h => by cases h
  | .int _ :: r, ns, h => by cases h
  | .str _ :: r, ns, h => by cases h
  | .list _ :: r, ns, h => by cases h
  | .tuple _ :: r, ns, h => by cases h
  | .dict _ :: r, ns, h => by cases h
theorem allBools_map (ns : List Bool) : allBools (ns.map PyData.bool) = some ns := by
  induction ns with
  | nil => rfl
  | cons n ns ih =>
    show (allBools (ns.map PyData.bool)).map (n :: ·) = _
    rw [ih]
    rfl
theorem inV_ints (i : Int) (ns : List Int) : inV (.int i) (ns.map V.int) = ns.contains i := by
  unfold inV
  induction ns with
  | nil => rfl
  | cons n ns ih =>
    rw [List.map_cons, List.any_cons, ih, List.contains_cons]
    show ((n == i) || _) = _
    rw [Bool.beq_comm]
theorem flat_ints (ns : List Int) : (ns.map V.int).all flatV = true := by
  rw [List.all_map]
  exact List.all_eq_true.mpr fun _ _ => rfl
theorem ok_inn {ng : Bool} : OpOk K (rIn K ng) (mapB (innD ng)) := by
  intro R G0 G H env σ tmp o1 o2 v1 v2 d1 d2 z Q S t1 t2 e1 e2 hz q
  unfold mapB at hz
  rw [Option.map_eq_some_iff] at hz
  obtain ⟨b, h1, h2⟩ := hz
  subst h2
  unfold innD at h1
  split at h1
  · rename_i i ds hi
    rw [Option.map_eq_some_iff] at h1
    obtain ⟨ns, hn, hb⟩ := h1
    have en := allInts_eq hn
    subst en
    have z1 := (S.res t1 e1).intI
    subst z1
    have fin : ∀ (a : Addr), (SqL K H a (ns.map V.int) ∨ SqT K H a (ns.map V.int)) → rIn K ng (.int i) (.ref a) H Q := fun a ha => by
      refine ⟨a, _, rfl, ha, rfl, flat_ints ns, ?_⟩
      rw [inV_ints]
      subst hb
      exact q _ G H (Same.refl _) (S.pushVa (.bl _))
    cases d2 with
    | list es =>
      cases hi
      obtain ⟨a, xs, rfl, ha, ra⟩ := S.resL t2 e2
      rw [ra.ints] at ha
      exact fin a (.inl (SqL.of ha))
    | tuple es =>
      cases hi
      obtain ⟨a, xs, rfl, ha, ra⟩ := (S.res t2 e2).tupI
      rw [ra.ints] at ha
      exact fin a (.inr (SqT.of ha))
    | _ => cases hi
  · cases h1

/-! ### subscripts -/
theorem atI_rp {xs : List V} {ds : List PyData} {i : Int} (r : RpAll K G xs ds) (h : atI ds i = some d) : ∃ v, atI xs i = some v ∧ Rp K G v d := by
  unfold atI at h ⊢
  rw [r.len]
  cases e : ixN ds.length i with
  | none =>
    rw [e] at h
    cases h
  | some j =>
    rw [e] at h
    obtain ⟨v, h1, h2⟩ := r.get (i := j) h
    exact ⟨v, h1, h2⟩
theorem atI_map {α β : Type} (f : α → β) (xs : List α) (i : Int) : atI (xs.map f) i = (atI xs i).map f := by
  unfold atI
  rw [List.length_map]
  cases ixN xs.length i with
  | none => rfl
  | some j => simp
theorem scrOf_eq {ns : List Int} (h : scrOf d = some ns) : d = scrD ns := by
  unfold scrOf at h
  split at h
  · rw [allInts_eq h]
    rfl
  · cases h
theorem scrOf_scr (ns : List Int) : scrOf (scrD ns) = some ns := allInts_map ns
theorem Rp.scrI {ns : List Int} (h : Rp K G v (scrD ns)) : ∃ a, v = .ref a ∧ SqL K G a (ns.map V.int) := by
  generalize e : scrD ns = d at h
  cases h with
  | scr hs =>
    rename_i a ms
    have e2 : ms = ns := by
      have := congrArg scrOf e
      rw [scrOf_scr, scrOf_scr] at this
      exact (Option.some.inj this).symm
    subst e2
    exact ⟨a, rfl, hs⟩
  | _ => cases e
def rIdxD (K : PySem.W.Frag) : R2 := fun x y H Q => rIxL K x y H Q ∨ rIxT K x y H Q
theorem ix_idxD {X : Cx} : IxR X (rIdxD X.K) := ix_list.or ix_tup
theorem ok_idx : OpOk K (rIdxD K) (fun x y => (idxD x y).map .va) := by
  intro R G0 G H env σ tmp o1 o2 v1 v2 d1 d2 z Q S t1 t2 e1 e2 hz q
  rw [Option.map_eq_some_iff] at hz
  obtain ⟨d, h1, h2⟩ := hz
  subst h2
  unfold idxD at h1
  split at h1
  · obtain ⟨a, xs, rfl, ha, ra⟩ := S.resL t1 e1
    have z2 := (S.res t2 e2).intI
    subst z2
    obtain ⟨v, hv, rv⟩ := atI_rp ra h1
    exact .inl ⟨a, xs, _, v, rfl, rfl, SqL.of ha, hv, q v G H (Same.refl _) (S.pushVa rv)⟩
  · have T1 := S.resT t1 e1 (fun ds => by intro z; cases z)
    obtain ⟨a, xs, rfl, ha, ra⟩ := T1.tupI
    have z2 := (S.res t2 e2).intI
    subst z2
    obtain ⟨v, hv, rv⟩ := atI_rp ra h1
    exact .inr ⟨a, xs, _, v, rfl, rfl, SqT.of (S.gh _ _ ha), hv, q v G H (Same.refl _) (S.pushVa rv)⟩
  · rw [Option.bind_eq_some_iff] at h1
    obtain ⟨ns, hn, h1⟩ := h1
    have ed := scrOf_eq hn
    subst ed
    obtain ⟨a, rfl, ha⟩ := (S.res t1 e1).scrI
    have z2 := (S.res t2 e2).intI
    subst z2
    rw [Option.map_eq_some_iff] at h1
    obtain ⟨k, hk, h1⟩ := h1
    subst h1
    exact .inl ⟨a, _, _, .int k, rfl, rfl, ha, by rw [atI_map, hk]; rfl, q _ G H (Same.refl _) (S.pushVa (.int k))⟩
  · cases h1

theorem cut_rp {xs : List V} {ds : List PyData} {lo hi : Option Int} (r : RpAll K G xs ds) : RpAll K G (cutV xs lo hi) (cutD ds lo hi) := by
  unfold cutV cutD
  rw [r.len]
  exact (r.drop _).take _
theorem cut_ints {ns : List Int} {lo hi : Option Int} : cutV (ns.map V.int) lo hi = (cutD ns lo hi).map V.int := by
  unfold cutV cutD
  rw [List.length_map, List.map_take, List.map_drop]
def rSlcD (K : PySem.W.Frag) : V → Option Int → Option Int → Hp → VK → Prop := fun x lo hi H Q => rSlL K x lo hi H Q ∨ rSlA K x lo hi H Q
theorem sl_slcD {X : Cx} : SlR X (rSlcD X.K) := SlR.or sl_list sl_tupA
theorem HT_whole {n : Nat} {lo hi : Option Int} {xs : List PyData} (h : n = xs.length) (w : HT.sIx n 0 lo = 0 ∧ HT.sIx n n hi = n) : cutD xs lo hi = xs := by
  subst h
  unfold cutD
  rw [w.1, w.2]
  simp
theorem ok_slc {ta : TE} {tl th : TO} {fa : EnvD → Option (Opd × EnvD)} {fl fh : EnvD → Option (Option Int × EnvD)} (ha : TEok K ta fa) (hl : TOok K tl fl) (hh : TOok K th fh) :
    TEok K (tSl (rSlcD K) ta tl th) (fun env => (fa env).bind fun p => (fl p.2).bind fun q => (fh q.2).bind fun w => (res w.2 p.1).bind fun x => (slcD x q.1 w.1).bind fun r => some (r.opd, w.2)) := by
  intro R G0 G H env σ tmp o env' Q S e q
  simp only [Option.bind_eq_some_iff] at e
  obtain ⟨⟨o1, e1⟩, h1, ⟨l, e2⟩, h2, ⟨u, e3⟩, h3, d1, r1, z, hz, e⟩ := e
  cases e
  refine ha _ _ _ _ _ _ _ _ _ _ S h1 fun v1 G1 H1 g1 S1 => ?_
  refine hl _ _ _ _ _ _ _ _ _ _ S1 h2 fun G2 H2 g2 S2 => ?_
  refine hh _ _ _ _ _ _ _ _ _ _ S2 h3 fun G3 H3 g3 S3 => ?_
  have g := g1.trans (g2.trans g3)
  unfold slcD at hz
  split at hz
  · cases hz
    obtain ⟨a, xs, rfl, hx, rx⟩ := S3.resL S3.top r1
    exact .inl ⟨a, xs, rfl, SqL.of hx, fun p hp => q _ G3 _ g (S3.newL hp (cut_rp rx)).drop1⟩
  · cases hz
    have T1 := S3.resT S3.top r1 (fun ds => by intro z; cases z)
    obtain ⟨a, xs, rfl, hx, rx⟩ := T1.tupI
    refine .inr ⟨a, xs, rfl, SqT.of (S3.gh _ _ hx), fun w => ?_, fun _ p hp => ?_⟩
    · have z := HT_whole rx.len w
      have q' := q (.ref a) G3 H3 g
      show Q (.ref a) H3
      refine q' ?_
      show SR _ _ _ _ _ _ _ ((Opd.va (.tuple (cutD _ l u)), _) :: _)
      rw [z]
      exact S3.pop.pushVa T1
    · obtain ⟨S', g'⟩ := S3.newT hp (cut_rp (lo := l) (hi := u) rx)
      exact q _ _ _ (g.trans g') S'.drop1
  · rw [Option.bind_eq_some_iff] at hz
    obtain ⟨ns, hn, hz⟩ := hz
    cases hz
    have ed := scrOf_eq hn
    subst ed
    obtain ⟨a, rfl, hx⟩ := (S3.res S3.top r1).scrI
    exact .inl ⟨a, _, rfl, hx, fun p hp => q _ G3 _ g (S3.newL hp (by rw [cut_ints]; exact RpAll.ofInts _)).drop1⟩
theorem ok_no : TOok K tNoPart (fun env => some (none, env)) := by
  intro R G0 G H env σ tmp o env' Q S e q
  cases e
  exact q G H (Same.refl _) S
theorem ok_part {ta : TE} {fa : EnvD → Option (Opd × EnvD)} (ha : TEok K ta fa) : TOok K (tPart ta) (fun env => (fa env).bind fun p => match p.1 with
    | .va (.int i) => some (some i, p.2)
    | _ => none) := by
  intro R G0 G H env σ tmp o env' Q S e q
  simp only [Option.bind_eq_some_iff] at e
  obtain ⟨⟨o1, e1⟩, h1, e⟩ := e
  dsimp only at e
  split at e
  · cases e
    refine ha _ _ _ _ _ _ _ _ _ _ S h1 fun v1 G1 H1 g1 S1 => ?_
    have z := Rp.intI (K := K) (G := G1) S1.top
    exact ⟨_, z, q G1 H1 g1 S1.pop⟩
  · cases e
theorem ok_rev {ta : TE} {fa : EnvD → Option (Opd × EnvD)} (ha : TEok K ta fa) : TEok K (tRevL K ta) (fun env => (fa env).bind fun p => (res p.2 p.1).bind fun x => match x with
    | .list ds => some (.ow ds.reverse, p.2)
    | _ => none) := by
  intro R G0 G H env σ tmp o env' Q S e q
  simp only [Option.bind_eq_some_iff] at e
  obtain ⟨⟨o1, e1⟩, h1, d1, r1, e⟩ := e
  dsimp only at e
  split at e
  · cases e
    refine ha _ _ _ _ _ _ _ _ _ _ S h1 fun v1 G1 H1 g1 S1 => ?_
    obtain ⟨a, xs, rfl, hx, rx⟩ := S1.resL S1.top r1
    exact ⟨a, xs, rfl, SqL.of hx, fun p hp => q _ G1 _ g1 (S1.newL hp rx.rev).drop1⟩
  · cases e
theorem ok_neg {ta : TE} {fa : EnvD → Option (Opd × EnvD)} (ha : TEok K ta fa) : TEok K (tUn (rU fun i => .int (-i)) ta) (fun env => (fa env).bind fun p => match p.1 with
    | .va (.int i) => some (.va (.int (-i)), p.2)
    | _ => none) := by
  intro R G0 G H env σ tmp o env' Q S e q
  simp only [Option.bind_eq_some_iff] at e
  obtain ⟨⟨o1, e1⟩, h1, e⟩ := e
  dsimp only at e
  split at e
  · cases e
    refine ha _ _ _ _ _ _ _ _ _ _ S h1 fun v1 G1 H1 g1 S1 => ?_
    have z := Rp.intI (K := K) (G := G1) S1.top
    exact ⟨_, z, q _ G1 H1 g1 (S1.pop.pushVa (.int _))⟩
  · cases e

/-! ### truth -/
theorem truth_eq {b : Bool} (h : truth o = some b) : o = .va (.bool b) := by
  unfold truth at h
  split at h
  · cases h
    rfl
  · cases h
def fT (fa : EnvD → Option (Opd × EnvD)) : EnvD → Option (Bool × EnvD) := fun env => (fa env).bind fun p => (truth p.1).bind fun t => some (t, p.2)
theorem ok_test {ta : TE} {fa : EnvD → Option (Opd × EnvD)} (ha : TEok K ta fa) : TTok K (tB ta) (fT fa) := by
  intro R G0 G H env σ tmp b env' Q S e q
  unfold fT at e
  simp only [Option.bind_eq_some_iff] at e
  obtain ⟨⟨o1, e1⟩, h1, t, ht, e⟩ := e
  cases e
  have ho := truth_eq ht
  dsimp only at ho
  subst ho
  refine ha _ _ _ _ _ _ _ _ _ _ S h1 fun v1 G1 H1 g1 S1 => ?_
  exact ⟨_, Rp.boolI (K := K) (G := G1) S1.top, q G1 H1 g1 S1.pop⟩
theorem ok_andV {ta tb : TE} {fa fb : EnvD → Option (Opd × EnvD)} (ha : TEok K ta fa) (hb : TEok K tb fb) : TEok K (tAndV ta tb) (fun env => (fa env).bind fun p => (truth p.1).bind fun t => match t with
    | true => fb p.2
    | false => some (.va (.bool false), p.2)) := by
  intro R G0 G H env σ tmp o env' Q S e q
  simp only [Option.bind_eq_some_iff] at e
  obtain ⟨⟨o1, e1⟩, h1, t, ht, e⟩ := e
  have ho := truth_eq ht
  dsimp only at ho
  subst ho
  refine ha _ _ _ _ _ _ _ _ _ _ S h1 fun v1 G1 H1 g1 S1 => ?_
  refine ⟨_, Rp.boolI (K := K) (G := G1) S1.top, ?_⟩
  cases t with
  | true =>
    rw [if_pos rfl]
    exact hb _ _ _ _ _ _ _ _ _ _ S1.pop e fun v G2 H2 g2 S2 => q v G2 H2 (g1.trans g2) S2
  | false =>
    cases e
    rw [if_neg Bool.false_ne_true]
    exact q _ G1 H1 g1 (S1.pop.pushVa (.bl _))
theorem ok_orV {ta tb : TE} {fa fb : EnvD → Option (Opd × EnvD)} (ha : TEok K ta fa) (hb : TEok K tb fb) : TEok K (tOrV ta tb) (fun env => (fa env).bind fun p => (truth p.1).bind fun t => match t with
    | true => some (.va (.bool true), p.2)
    | false => fb p.2) := by
  intro R G0 G H env σ tmp o env' Q S e q
  simp only [Option.bind_eq_some_iff] at e
  obtain ⟨⟨o1, e1⟩, h1, t, ht, e⟩ := e
  have ho := truth_eq ht
  dsimp only at ho
  subst ho
  refine ha _ _ _ _ _ _ _ _ _ _ S h1 fun v1 G1 H1 g1 S1 => ?_
  refine ⟨_, Rp.boolI (K := K) (G := G1) S1.top, ?_⟩
  cases t with
  | false =>
    rw [if_neg Bool.false_ne_true]
    exact hb _ _ _ _ _ _ _ _ _ _ S1.pop e fun v G2 H2 g2 S2 => q v G2 H2 (g1.trans g2) S2
  | true =>
    cases e
    rw [if_pos rfl]
    exact q _ G1 H1 g1 (S1.pop.pushVa (.bl _))
theorem ok_notV {ta : TE} {fa : EnvD → Option (Opd × EnvD)} (ha : TEok K ta fa) : TEok K (tNotV ta) (fun env => (fa env).bind fun p => (truth p.1).bind fun t => some (.va (.bool (!t)), p.2)) := by
  intro R G0 G H env σ tmp o env' Q S e q
  simp only [Option.bind_eq_some_iff] at e
  obtain ⟨⟨o1, e1⟩, h1, t, ht, e⟩ := e
  have ho := truth_eq ht
  dsimp only at ho
  subst ho
  cases e
  refine ha _ _ _ _ _ _ _ _ _ _ S h1 fun v1 G1 H1 g1 S1 => ?_
  exact ⟨_, Rp.boolI (K := K) (G := G1) S1.top, q _ G1 H1 g1 (S1.pop.pushVa (.bl _))⟩
/-- as tests -/
theorem ok_andT {ta tb : TT} {fa fb : EnvD → Option (Opd × EnvD)} (ha : TTok K ta (fT fa)) (hb : TTok K tb (fT fb)) : TTok K (tAnd ta tb) (fT fun env => (fa env).bind fun p => (truth p.1).bind fun t => match t with
    | true => fb p.2
    | false => some (.va (.bool false), p.2)) := by
  intro R G0 G H env σ tmp b env' Q S e q
  unfold fT at e
  simp only [Option.bind_eq_some_iff] at e
  obtain ⟨⟨o2, e2⟩, ⟨⟨o1, e1⟩, h1, t, ht, e⟩, u, hu, e3⟩ := e
  cases e3
  refine ha _ _ _ _ _ _ _ t e1 _ S (by unfold fT; rw [h1]; simp [ht]) fun G1 H1 g1 S1 => ?_
  cases t with
  | true =>
    show tb σ H1 Q
    have e : fb e1 = some (o2, e2) := e
    exact hb _ _ _ _ _ _ _ _ e2 _ S1 (by unfold fT; rw [e]; simp [hu]) fun G2 H2 g2 S2 => q G2 H2 (g1.trans g2) S2
  | false =>
    cases e
    cases hu
    exact q G1 H1 g1 S1
theorem ok_orT {ta tb : TT} {fa fb : EnvD → Option (Opd × EnvD)} (ha : TTok K ta (fT fa)) (hb : TTok K tb (fT fb)) : TTok K (tOr ta tb) (fT fun env => (fa env).bind fun p => (truth p.1).bind fun t => match t with
    | true => some (.va (.bool true), p.2)
    | false => fb p.2) := by
  intro R G0 G H env σ tmp b env' Q S e q
  unfold fT at e
  simp only [Option.bind_eq_some_iff] at e
  obtain ⟨⟨o2, e2⟩, ⟨⟨o1, e1⟩, h1, t, ht, e⟩, u, hu, e3⟩ := e
  cases e3
  refine ha _ _ _ _ _ _ _ t e1 _ S (by unfold fT; rw [h1]; simp [ht]) fun G1 H1 g1 S1 => ?_
  cases t with
  | false =>
    show tb σ H1 Q
    have e : fb e1 = some (o2, e2) := e
    exact hb _ _ _ _ _ _ _ _ e2 _ S1 (by unfold fT; rw [e]; simp [hu]) fun G2 H2 g2 S2 => q G2 H2 (g1.trans g2) S2
  | true =>
    cases e
    cases hu
    exact q G1 H1 g1 S1
theorem ok_notT {ta : TT} {fa : EnvD → Option (Opd × EnvD)} (ha : TTok K ta (fT fa)) : TTok K (tNot ta) (fT fun env => (fa env).bind fun p => (truth p.1).bind fun t => some (.va (.bool (!t)), p.2)) := by
  intro R G0 G H env σ tmp b env' Q S e q
  unfold fT at e
  simp only [Option.bind_eq_some_iff] at e
  obtain ⟨⟨o2, e2⟩, ⟨⟨o1, e1⟩, h1, t, ht, e⟩, u, hu, e3⟩ := e
  cases e3
  cases e
  cases hu
  exact ha _ _ _ _ _ _ _ t e1 _ S (by unfold fT; rw [h1]; simp [ht]) fun G1 H1 g1 S1 => q G1 H1 g1 S1
/-- a comparison as a test, an if expression -/
theorem ok_tTest {ta : TE} {fa : EnvD → Option (Opd × EnvD)} (ha : TEok K ta fa) : TTok K (tTest ta) (fT fa) := ok_test ha
theorem ok_if {tc : TT} {ta tb : TE} {fc fa fb : EnvD → Option (Opd × EnvD)} (hc : TTok K tc (fT fc)) (ha : TEok K ta fa) (hb : TEok K tb fb) : TEok K (tIf tc ta tb) (fun env => (fc env).bind fun p => (truth p.1).bind fun t => match t with
    | true => fa p.2
    | false => fb p.2) := by
  intro R G0 G H env σ tmp o env' Q S e q
  simp only [Option.bind_eq_some_iff] at e
  obtain ⟨⟨o1, e1⟩, h1, t, ht, e⟩ := e
  refine hc _ _ _ _ _ _ _ t e1 _ S (by unfold fT; rw [h1]; simp [ht]) fun G1 H1 g1 S1 => ?_
  cases t with
  | true => exact ha _ _ _ _ _ _ _ _ _ _ S1 e fun v G2 H2 g2 S2 => q v G2 H2 (g1.trans g2) S2
  | false => exact hb _ _ _ _ _ _ _ _ _ _ S1 e fun v G2 H2 g2 S2 => q v G2 H2 (g1.trans g2) S2

/-! ### arguments, displays -/
theorem ok_nil : TAok K tNil (fun env => some ([], env)) := by
  intro R G0 G H env σ tmp os env' Q S e q
  cases e
  exact q [] G H rfl (Same.refl _) S
theorem ok_cons {ta : TE} {tr : TA} {fa : EnvD → Option (Opd × EnvD)} {fr : EnvD → Option (List Opd × EnvD)} (ha : TEok K ta fa) (hr : TAok K tr fr) : TAok K (tCons ta tr) (fun env => (fa env).bind fun p => (fr p.2).bind fun q => some (p.1 :: q.1, q.2)) := by
  intro R G0 G H env σ tmp os env' Q S e q
  simp only [Option.bind_eq_some_iff] at e
  obtain ⟨⟨o1, e1⟩, h1, ⟨os2, e2⟩, h2, e⟩ := e
  cases e
  refine ha _ _ _ _ _ _ _ _ _ _ S h1 fun v1 G1 H1 g1 S1 => ?_
  refine hr _ _ _ _ _ _ _ _ _ _ S1 h2 fun vs G2 H2 hl g2 S2 => ?_
  refine q (v1 :: vs) G2 H2 (by simp [hl]) (g1.trans g2) (S2.perm ?_)
  show (os2.zip vs ++ (o1, v1) :: tmp).Perm ((o1, v1) :: (os2.zip vs ++ tmp))
  exact List.perm_middle
/-- a value on its way stays from now on -/
theorem SR.frz (S : SR K R G0 G H env σ ((o, v) :: tmp)) (h : frz env o = some (d, env')) : ∃ G', Same G G' ∧ SR K R G0 G' H env' σ tmp ∧ Rp K G' v d := by
  cases o with
  | va d' =>
    cases h
    exact ⟨G, Same.refl _, S.pop, S.top⟩
  | ow ds =>
    cases h
    obtain ⟨G', g, S'⟩ := S.thaw
    exact ⟨G', g, S'.pop, S'.top⟩
  | sl i =>
    unfold Pd.frz at h
    dsimp only at h
    split at h
    · rename_i ds q
      cases h
      obtain ⟨G', g, S'⟩ := S.thawS q
      exact ⟨G', g, S'.pop, S'.top⟩
    · rename_i d' q
      cases h
      obtain ⟨u, e1, r⟩ := S.slot i _ q
      have e2 : σ[i]? = some (some v) := S.top
      rw [e1] at e2
      cases e2
      exact ⟨G, Same.refl _, S.pop, r⟩
    · cases h
theorem fzO_frz {e1 : EnvD} {r : PyData × EnvD} (h : fzO e1 o = some r) : Pd.frz e1 o = some r := by
  cases o with
  | va d => exact h
  | ow ds => exact h
  | sl i =>
    unfold fzO at h
    unfold Pd.frz
    dsimp only at h ⊢
    split at h
    · rename_i ds q
      rw [q]
      exact h
    · cases h
theorem ok_fz {t : TE} {fa : EnvD → Option (Opd × EnvD)} (h : TEok K t fa) : TEok K t (fun env => (fa env).bind fun p => (fzO p.2 p.1).bind fun q => some (.va q.1, q.2)) := by
  intro R G0 G H env σ tmp o env' Q S e q
  simp only [Option.bind_eq_some_iff] at e
  obtain ⟨⟨o1, e1⟩, h1, ⟨d, e2⟩, h2, e⟩ := e
  cases e
  have h2 := fzO_frz h2
  refine h _ _ _ _ _ _ _ _ _ _ S h1 fun v G1 H1 g1 S1 => ?_
  obtain ⟨G2, g2, S2, r⟩ := S1.frz h2
  exact q v G2 H1 (g1.trans g2) (S2.pushVa r)
theorem SR.preE : ∀ (is : List Nat) {G : Hp} {env : EnvD}, SR K R G0 G H env σ tmp → ∃ G', Same G G' ∧ SR K R G0 G' H (Pd.preE is env) σ tmp
  | [], G, env, S => ⟨G, Same.refl _, S⟩
  | i :: r, G, env, S => by
    have other : Pd.preE (i :: r) env = Pd.preE r env → ∃ G', Same G G' ∧ SR K R G0 G' H (Pd.preE (i :: r) env) σ tmp := fun e => by
      rw [e]
      exact SR.preE r S
    cases e : env[i]? with
    | none => exact other (by show Pd.preE r (match env[i]? with | some (.ow ds) => env.set i (.va (.list ds)) | _ => env) = _; rw [e])
    | some c =>
      cases c with
      | no => exact other (by show Pd.preE r (match env[i]? with | some (.ow ds) => env.set i (.va (.list ds)) | _ => env) = _; rw [e])
      | va d => exact other (by show Pd.preE r (match env[i]? with | some (.ow ds) => env.set i (.va (.list ds)) | _ => env) = _; rw [e])
      | io ds => exact other (by show Pd.preE r (match env[i]? with | some (.ow ds) => env.set i (.va (.list ds)) | _ => env) = _; rw [e])
      | ow ds =>
        obtain ⟨a, xs, e1, e2, r1⟩ := S.slot i _ e
        obtain ⟨G1, g1, S1⟩ := (S.pushSl e1).thawS e
        obtain ⟨G2, g2, S2⟩ := SR.preE r S1.pop
        refine ⟨G2, g1.trans g2, ?_⟩
        show SR K R G0 G2 H (Pd.preE r (match env[i]? with | some (.ow ds) => env.set i (.va (.list ds)) | _ => env)) σ tmp
        rw [e]
        exact S2
theorem ok_pre {t : TE} {fa : EnvD → Option (Opd × EnvD)} (is : List Nat) (h : TEok K t fa) : TEok K t (fun env => fa (Pd.preE is env)) := by
  intro R G0 G H env σ tmp o env' Q S e q
  obtain ⟨G1, g1, S1⟩ := SR.preE is S
  exact h _ _ _ _ _ _ _ _ _ _ S1 e fun v G' H' g' S' => q v G' H' (g1.trans g') S'
theorem frzs_ok : ∀ (os : List Opd) (vs : List V) (G : Hp) (env : EnvD) (ds : List PyData), SR K R G0 G H env σ (os.zip vs ++ tmp) → os.length = vs.length → Pd.frzs env os = some (ds, env') → ∃ G', Same G G' ∧ SR K R G0 G' H env' σ tmp ∧ RpAll K G' vs ds := by
  intro os
  induction os with
  | nil =>
    intro vs G env ds S hl h
    cases h
    cases vs with
    | nil => exact ⟨G, Same.refl _, S, .nil⟩
    | cons _ _ => cases hl
  | cons o os ih =>
    intro vs G env ds S hl h
    cases vs with
    | nil => cases hl
    | cons v vs =>
      unfold Pd.frzs at h
      simp only [Option.bind_eq_some_iff] at h
      obtain ⟨⟨d, e1⟩, h1, ⟨ds', e2⟩, h2, e⟩ := h
      cases e
      obtain ⟨G1, g1, S1, r1⟩ := SR.frz (tmp := os.zip vs ++ tmp) S h1
      obtain ⟨G2, g2, S2, r2⟩ := ih _ _ _ _ S1 (by simpa using hl) h2
      exact ⟨G2, g1.trans g2, S2, .cons (r1.mono g2) r2⟩
theorem ok_lst {ta : TA} {fa : EnvD → Option (List Opd × EnvD)} (ha : TAok K ta fa) : TEok K (tLst ta) (fun env => (fa env).bind fun p => (Pd.frzs p.2 p.1).bind fun q => if q.1.length ≤ 16777216 then some (.ow q.1, q.2) else none) := by
  intro R G0 G H env σ tmp o env' Q S e q
  simp only [Option.bind_eq_some_iff] at e
  obtain ⟨⟨os, e1⟩, h1, ⟨ds, e2⟩, h2, e⟩ := e
  dsimp only at e
  split at e
  · rename_i hle
    cases e
    refine ha _ _ _ _ _ _ _ _ _ _ S h1 fun vs G1 H1 hl g1 S1 => ?_
    obtain ⟨G2, g2, S2, r2⟩ := frzs_ok _ _ _ _ _ S1 hl h2
    exact ⟨by rw [r2.len, line_eq]; exact hle, fun p hp => q _ G2 _ (g1.trans g2) (S2.newL hp r2)⟩
  · cases e
theorem ok_tup {ta : TA} {fa : EnvD → Option (List Opd × EnvD)} (ha : TAok K ta fa) : TEok K (tTup ta) (fun env => (fa env).bind fun p => (Pd.frzs p.2 p.1).bind fun q => if q.1.length ≤ 16777216 then some (.va (.tuple q.1), q.2) else none) := by
  intro R G0 G H env σ tmp o env' Q S e q
  simp only [Option.bind_eq_some_iff] at e
  obtain ⟨⟨os, e1⟩, h1, ⟨ds, e2⟩, h2, e⟩ := e
  dsimp only at e
  split at e
  · rename_i hle
    cases e
    refine ha _ _ _ _ _ _ _ _ _ _ S h1 fun vs G1 H1 hl g1 S1 => ?_
    obtain ⟨G2, g2, S2, r2⟩ := frzs_ok _ _ _ _ _ S1 hl h2
    refine ⟨by rw [r2.len, line_eq]; exact hle, fun p hp => ?_⟩
    obtain ⟨S3, g3⟩ := S2.newT hp r2
    exact q _ _ _ (g1.trans (g2.trans g3)) S3
  · cases e
theorem ok_call {ta : TA} {r : List V → Hp → VK → Prop} {f : List PyData → Option Rv} {fa : EnvD → Option (List Opd × EnvD)} (hr : CallOk K r f) (ha : TAok K ta fa) : TEok K (tCB r ta) (fun env => (fa env).bind fun p => (ress p.2 p.1).bind fun ds => (f ds).bind fun r => some (r.opd, p.2)) := by
  intro R G0 G H env σ tmp o env' Q S e q
  simp only [Option.bind_eq_some_iff] at e
  obtain ⟨⟨os, e1⟩, h1, ds, h2, z, hz, e⟩ := e
  cases e
  refine ha _ _ _ _ _ _ _ _ _ _ S h1 fun vs G1 H1 hl g1 S1 => ?_
  exact hr _ _ _ _ _ _ _ _ _ _ _ _ S1 hl h2 hz fun v G2 H2 g2 S2 => q v G2 H2 (g1.trans g2) S2
end
end Pd

/-! sorted(..) of lists of whole numbers -/
namespace Pd
open PySem PySem.Spec PyProof.Rows L2
def rSortedR (K : PySem.W.Frag) : List V → Hp → VK → Prop := fun vs H Q => ∃ (a : Addr) (xs : List V) (rows : List (List Int)) (P : V → List Int → Prop), vs = [.ref a] ∧ SqL K H a xs ∧ DpAll K H xs (rows.map fun r => .list (r.map .int)) ∧ PySem.W.EachIs P xs rows ∧
  ∀ (ys : List V) (p : Addr), PySem.W.EachIs P ys (sortR rows) → H p = none → Q (.ref p) (upd H p (.lst ys))
theorem each_vals {P : V → List Int → Prop} : ∀ {xs : List V} {its : List Value} {rows : List (List Int)}, Vals xs its → PySem.W.EachIs P xs rows → PySem.W.EachIs (fun v b => ∃ x, RelV x v ∧ P x b) its rows
  | [], _, _, .nil, .nil => .nil
  | x :: xs, _, _, .cons r t, .cons p e => .cons ⟨x, r, p⟩ (each_vals t e)
theorem vals_each {P : V → List Int → Prop} : ∀ {its : List Value} {rows : List (List Int)}, PySem.W.EachIs (fun v b => ∃ x, RelV x v ∧ P x b) its rows → ∃ ys, Vals ys its ∧ PySem.W.EachIs P ys rows
  | _, _, .nil => ⟨[], .nil, .nil⟩
  | _, _, .cons ⟨x, r, p⟩ e => by
    obtain ⟨ys, h1, h2⟩ := vals_each e
    exact ⟨x :: ys, .cons r h1, .cons p h2⟩
theorem cr_sortedR {X : Cx} (hu : X.A.units + 65 < cLine) : CallR X (.builtin "sorted") (rSortedR X.K) := by
  intro pins s σ H vs us Q I r h
  obtain ⟨a, xs, rows, P, rfl, hs, hd, he, q⟩ := h
  obtain ⟨its, rv, hl, hz⟩ := I.list hs
  rw [Vals.ref1 r]
  obtain ⟨as, hr⟩ := Dp.readsAll I _ _ its hd rv
  have hlen : rows.length = xs.length := by
    have h1 := PySem.W.EachIs.length he
    omega
  refine PySem.W.sorted_data (enc := fun b => .list (b.map .int)) (R := fun v b => ∃ x, RelV x v ∧ P x b) hl.isList (each_vals rv he) (PySem.W.readsAll_each _ hr) (PySem.W.AllAlike.of fun b b' => by
      rw [PySem.W.alike]
      exact PySem.W.alike_ints b b') (PySem.W.Sortable.others fun b => ⟨(fun z => nomatch z), fun xs z => nomatch z⟩) (by rw [hlen]; exact hz) (fun b _ => by
      rw [PyData.depth, PySem.W.depth_ints]
      omega) fun out ho e => ?_
  rw [PySem.W.dataLe_rows (fun b => b)] at e
  obtain ⟨ys, hv, e2⟩ := vals_each e
  obtain ⟨ep, he'⟩ := PyProof.Rows.sortedAll_at s.heap its out.toArray
  have hl2 : ys.length ≤ sizeLine := by
    rw [hv.length, ho, hlen]
    exact hz
  exact ⟨.ref _, upd H (s.heap.objs.size + 1) (.lst ys), I.laid (t' := s.toks) (fun _ _ => PyProof.Rows.sortedAll_old) (Nat.le_succ _) ⟨hl2, out, ep, hv, he'⟩, rfl, q _ _ e2 (I.hok.fresh (Nat.le_succ _))⟩
theorem cr_sorted2 {X : Cx} (hu : X.A.units + 65 < cLine) : CallR X (.builtin "sorted") (fun vs H Q => rSortedI X.K vs H Q ∨ rSortedR X.K vs H Q) := by
  intro pins s σ H vs us Q I r h
  rcases h with h | h
  · exact cr_sortedI pins s σ H vs us Q I r h
  · exact cr_sortedR hu pins s σ H vs us Q I r h
end Pd

/-! the built-in functions that are called with data -/
namespace Pd
open PySem PySem.Spec PyProof.Rows L2

section
variable {K : PySem.W.Frag} {R : RR} {G0 G H : Hp} {env env' : EnvD} {σ : L2.St} {tmp : Tmp} {o : Opd} {v : V} {d : PyData}

theorem zip_drop {os : List Opd} {vs : List V} (S : SR K R G0 G H env σ (os.zip vs ++ tmp)) : SR K R G0 G H env σ tmp := S.sub (List.sublist_append_right _ _)
theorem ress_rp : ∀ (os : List Opd) (vs : List V) (ds : List PyData), SR K R G0 G H env σ (os.zip vs ++ tmp) → os.length = vs.length → ress env os = some ds → RpAll K H vs ds := by
  intro os
  induction os with
  | nil =>
    intro vs ds S hl h
    cases vs with
    | nil =>
      cases h
      exact .nil
    | cons _ _ => cases hl
  | cons o os ih =>
    intro vs ds S hl h
    cases vs with
    | nil => cases hl
    | cons v vs =>
      unfold ress at h
      simp only [Option.bind_eq_some_iff] at h
      obtain ⟨d, h1, ds', h2, e⟩ := h
      cases e
      exact .cons (S.res S.top h1) (ih _ _ S.pop (by simpa using hl) h2)
/-- one argument -/
theorem one_of {os : List Opd} {vs : List V} {d : PyData} (S : SR K R G0 G H env σ (os.zip vs ++ tmp)) (hl : os.length = vs.length) (h : ress env os = some [d]) : ∃ o v, os = [o] ∧ vs = [v] ∧ OpdR K G H σ o v ∧ res env o = some d := by
  cases os with
  | nil => cases h
  | cons o os =>
    unfold ress at h
    simp only [Option.bind_eq_some_iff] at h
    obtain ⟨d', h1, ds', h2, e⟩ := h
    cases e
    cases os with
    | cons o2 os =>
      unfold ress at h2
      simp only [Option.bind_eq_some_iff] at h2
      obtain ⟨_, _, _, _, e⟩ := h2
      cases e
    | nil =>
      cases vs with
      | nil => cases hl
      | cons v vs =>
        cases vs with
        | cons _ _ => cases hl
        | nil => exact ⟨o, v, rfl, rfl, S.top, h1⟩
theorem two_of {os : List Opd} {vs : List V} {d e : PyData} (S : SR K R G0 G H env σ (os.zip vs ++ tmp)) (hl : os.length = vs.length) (h : ress env os = some [d, e]) : ∃ v w, vs = [v, w] ∧ Rp K H v d ∧ Rp K H w e := by
  have r := ress_rp _ _ _ S hl h
  cases r with
  | cons r1 r2 =>
    cases r2 with
    | cons r2 r3 =>
      cases r3
      exact ⟨_, _, rfl, r1, r2⟩

/-! ### one built-in each -/
def rLenD (K : PySem.W.Frag) : List V → Hp → VK → Prop := fun xs H Q => ∃ x n, xs = [x] ∧ LenV K x H n ∧ Q (.int n) H
theorem ok_len : CallOk K (rLenD K) (biD .len) := by
  intro R G0 G H env σ tmp os vs ds z Q S hl h hz q
  have hs := line_eq
  unfold biD at hz
  split at hz <;> try contradiction
  · cases hz
    obtain ⟨o, v, rfl, rfl, ho, e⟩ := one_of S hl h
    obtain ⟨a, xs, rfl, ha, ra⟩ := S.resL ho e
    exact ⟨_, _, rfl, .inl ⟨xs, SqL.of ha, rfl⟩, by rw [ra.len]; exact q _ G H (Same.refl _) ((zip_drop S).pushVa (.int _))⟩
  · cases hz
    obtain ⟨o, v, rfl, rfl, ho, e⟩ := one_of S hl h
    obtain ⟨a, xs, rfl, ha, ra⟩ := (S.res ho e).tupI
    exact ⟨_, _, rfl, .inr ⟨xs, SqT.of ha, rfl⟩, by rw [ra.len]; exact q _ G H (Same.refl _) ((zip_drop S).pushVa (.int _))⟩
  · split at hz
    · rename_i hle
      cases hz
      obtain ⟨o, v, rfl, rfl, ho, e⟩ := one_of S hl h
      have e1 := (S.res ho e).strI
      subst e1
      exact ⟨_, _, rfl, ⟨by rw [hs]; exact hle, rfl⟩, q _ G H (Same.refl _) ((zip_drop S).pushVa (.int _))⟩
    · cases hz
  · rw [Option.map_eq_some_iff] at hz
    obtain ⟨ns, hn, hz⟩ := hz
    subst hz
    have ed := scrOf_eq hn
    subst ed
    obtain ⟨o, v, rfl, rfl, ho, e⟩ := one_of S hl h
    obtain ⟨a, rfl, ha⟩ := (S.res ho e).scrI
    exact ⟨_, _, rfl, .inl ⟨_, ha, rfl⟩, by rw [List.length_map]; exact q _ G H (Same.refl _) ((zip_drop S).pushVa (.int _))⟩

/-- sum of a tuple -/
def rSumT (K : PySem.W.Frag) : List V → Hp → VK → Prop := fun vs H Q => ∃ (a : Addr) (ns : List Int), vs = [V.ref a] ∧ SqT K H a (ns.map V.int) ∧ Q (.int ns.sum) H
theorem cr_sumT {X : Cx} (hc : X.calm = true) : CallR X (.builtin "sum") (rSumT X.K) := by
  intro pins s σ H vs us Q I r h
  obtain ⟨a, ns, rfl, hs, q⟩ := h
  obtain ⟨its, rv, hl, _⟩ := I.tuple hs
  rw [Vals.ref1 r]
  have hi := rv.ints
  obtain ⟨xs, e⟩ := hi.allInts.items
  have hn : numsOf (intItems xs).toList = ns := by
    rw [← e]
    exact hi.numsOf
  rw [nums_intItems] at hn
  rw [e] at hl
  refine PySem.W.ktm_sumG (I.ok.hd hc) hl fun h' tk t' hk => ?_
  have fin : EP X pins σ Q (.int ns.sum t') { s with heap := h', toks := tk } := ⟨.int _, H, I.kept hk, ⟨_, rfl⟩, q⟩
  rw [preSum_eq, List.take_of_length_le (by simp), hn]
  exact fin
def rSumD (K : PySem.W.Frag) : List V → Hp → VK → Prop := fun vs H Q => rSum K vs H Q ∨ rSumT K vs H Q
theorem cr_sumD {X : Cx} (hc : X.calm = true) : CallR X (.builtin "sum") (rSumD X.K) := (cr_sum hc).or (cr_sumT hc)
theorem ok_sum : CallOk K (rSumD K) (biD .sum) := by
  intro R G0 G H env σ tmp os vs ds z Q S hl h hz q
  unfold biD at hz
  split at hz <;> try contradiction
  all_goals
    rw [Option.map_eq_some_iff] at hz
    obtain ⟨ns, hn, hz⟩ := hz
    subst hz
    have en := allInts_eq hn
    subst en
    obtain ⟨o, v, rfl, rfl, ho, e⟩ := one_of S hl h
  · obtain ⟨a, xs, rfl, ha, ra⟩ := S.resL ho e
    rw [ra.ints] at ha
    exact .inl ⟨a, ns, rfl, SqL.of ha, q _ G H (Same.refl _) ((zip_drop S).pushVa (.int _))⟩
  · obtain ⟨a, xs, rfl, ha, ra⟩ := (S.res ho e).tupI
    rw [ra.ints] at ha
    exact .inr ⟨a, ns, rfl, SqT.of ha, q _ G H (Same.refl _) ((zip_drop S).pushVa (.int _))⟩

theorem maxI_mem : ∀ (ns : List Int), ns ≠ [] → maxI ns ∈ ns
  | [], h => absurd rfl h
  | [x], _ => List.mem_cons_self
  | x :: y :: r, _ => by
    have ih := maxI_mem (y :: r) (by simp)
    show (if x < maxI (y :: r) then maxI (y :: r) else x) ∈ _
    split
    · exact List.mem_cons_of_mem _ ih
    · exact List.mem_cons_self
theorem maxI_le : ∀ (ns : List Int) (z : Int), z ∈ ns → z ≤ maxI ns
  | [], z, h => by cases h
  | [x], z, h => by
    rcases List.mem_cons.mp h with e | e
    · subst e
      exact Int.le_refl _
    · cases e
  | x :: y :: r, z, h => by
    have ih := maxI_le (y :: r)
    show z ≤ (if x < maxI (y :: r) then maxI (y :: r) else x)
    rcases List.mem_cons.mp h with e | e
    · subst e
      split <;> omega
    · have := ih z e
      split <;> omega
theorem minI_mem : ∀ (ns : List Int), ns ≠ [] → minI ns ∈ ns
  | [], h => absurd rfl h
  | [x], _ => List.mem_cons_self
  | x :: y :: r, _ => by
    have ih := minI_mem (y :: r) (by simp)
    show (if minI (y :: r) < x then minI (y :: r) else x) ∈ _
    split
    · exact List.mem_cons_of_mem _ ih
    · exact List.mem_cons_self
theorem minI_le : ∀ (ns : List Int) (z : Int), z ∈ ns → minI ns ≤ z
  | [], z, h => by cases h
  | [x], z, h => by
    rcases List.mem_cons.mp h with e | e
    · subst e
      exact Int.le_refl _
    · cases e
  | x :: y :: r, z, h => by
    have ih := minI_le (y :: r)
    show (if minI (y :: r) < x then minI (y :: r) else x) ≤ z
    rcases List.mem_cons.mp h with e | e
    · subst e
      split <;> omega
    · have := ih z e
      split <;> omega
def rMax2 : List V → Hp → VK → Prop := fun xs H Q => ∃ i j, xs = [.int i, .int j] ∧ Q (.int (if j > i then j else i)) H
def rMaxD (K : PySem.W.Frag) : List V → Hp → VK → Prop := fun vs H Q => rMax2 vs H Q ∨ rMax K vs H Q
theorem cr_maxD {X : Cx} (hc : X.calm = true) : CallR X (.builtin "max") (rMaxD X.K) := (call_max2 hc).or (cr_max hc)
theorem ok_max : CallOk K (rMaxD K) (biD .max) := by
  intro R G0 G H env σ tmp os vs ds z Q S hl h hz q
  unfold biD at hz
  split at hz <;> try contradiction
  · cases hz
    obtain ⟨v, w, rfl, r1, r2⟩ := two_of S hl h
    have e1 := r1.intI
    have e2 := r2.intI
    subst e1
    subst e2
    exact .inl ⟨_, _, rfl, q _ G H (Same.refl _) ((zip_drop S).pushVa (.int _))⟩
  · rw [Option.bind_eq_some_iff] at hz
    obtain ⟨ns, hn, hz⟩ := hz
    split at hz
    · cases hz
    · rename_i hne
      cases hz
      have en := allInts_eq hn
      subst en
      obtain ⟨o, v, rfl, rfl, ho, e⟩ := one_of S hl h
      obtain ⟨a, xs, rfl, ha, ra⟩ := S.resL ho e
      rw [ra.ints] at ha
      refine .inr ⟨a, ns, rfl, SqL.of ha, List.length_pos_iff.mpr hne, fun m hm hle => ?_⟩
      have em : m = maxI ns := Int.le_antisymm (maxI_le ns m hm) (hle _ (maxI_mem ns hne))
      subst em
      exact q _ G H (Same.refl _) ((zip_drop S).pushVa (.int _))
def rMin2 : List V → Hp → VK → Prop := fun xs H Q => ∃ i j, xs = [.int i, .int j] ∧ Q (.int (if j < i then j else i)) H
def rMinD (K : PySem.W.Frag) : List V → Hp → VK → Prop := fun vs H Q => rMin2 vs H Q ∨ rMin K vs H Q
theorem cr_minD {X : Cx} (hc : X.calm = true) : CallR X (.builtin "min") (rMinD X.K) := (call_min2 hc).or (cr_min hc)
theorem ok_min : CallOk K (rMinD K) (biD .min) := by
  intro R G0 G H env σ tmp os vs ds z Q S hl h hz q
  unfold biD at hz
  split at hz <;> try contradiction
  · cases hz
    obtain ⟨v, w, rfl, r1, r2⟩ := two_of S hl h
    have e1 := r1.intI
    have e2 := r2.intI
    subst e1
    subst e2
    exact .inl ⟨_, _, rfl, q _ G H (Same.refl _) ((zip_drop S).pushVa (.int _))⟩
  · rw [Option.bind_eq_some_iff] at hz
    obtain ⟨ns, hn, hz⟩ := hz
    split at hz
    · cases hz
    · rename_i hne
      cases hz
      have en := allInts_eq hn
      subst en
      obtain ⟨o, v, rfl, rfl, ho, e⟩ := one_of S hl h
      obtain ⟨a, xs, rfl, ha, ra⟩ := S.resL ho e
      rw [ra.ints] at ha
      refine .inr ⟨a, ns, rfl, SqL.of ha, List.length_pos_iff.mpr hne, fun m hm hle => ?_⟩
      have em : m = minI ns := Int.le_antisymm (hle _ (minI_mem ns hne)) (minI_le ns m hm)
      subst em
      exact q _ G H (Same.refl _) ((zip_drop S).pushVa (.int _))
def rAbs : List V → Hp → VK → Prop := fun xs H Q => ∃ i, xs = [.int i] ∧ Q (.int (if i < 0 then -i else i)) H
theorem ok_abs : CallOk K rAbs (biD .abs) := by
  intro R G0 G H env σ tmp os vs ds z Q S hl h hz q
  unfold biD at hz
  split at hz <;> try contradiction
  cases hz
  obtain ⟨o, v, rfl, rfl, ho, e⟩ := one_of S hl h
  have e1 := (S.res ho e).intI
  subst e1
  exact ⟨_, rfl, q _ G H (Same.refl _) ((zip_drop S).pushVa (.int _))⟩
def rInt : List V → Hp → VK → Prop := fun xs H Q => (∃ i, xs = [.int i] ∧ Q (.int i) H) ∨ ∃ k, xs = [.bl k] ∧ Q (.int (if k then 1 else 0)) H
theorem ok_int : CallOk K rInt (biD .int) := by
  intro R G0 G H env σ tmp os vs ds z Q S hl h hz q
  unfold biD at hz
  split at hz <;> try contradiction
  · cases hz
    obtain ⟨o, v, rfl, rfl, ho, e⟩ := one_of S hl h
    have e1 := (S.res ho e).intI
    subst e1
    exact .inl ⟨_, rfl, q _ G H (Same.refl _) ((zip_drop S).pushVa (.int _))⟩
  · cases hz
    obtain ⟨o, v, rfl, rfl, ho, e⟩ := one_of S hl h
    have e1 := (S.res ho e).boolI
    subst e1
    exact .inr ⟨_, rfl, q _ G H (Same.refl _) ((zip_drop S).pushVa (.int _))⟩
def rList (K : PySem.W.Frag) : List V → Hp → VK → Prop := fun xs H Q => ∃ p ys, xs = [.ref p] ∧ (SqL K H p ys ∨ SqT K H p ys) ∧ ∀ l, H l = none → Q (.ref l) (upd H l (.lst ys))
theorem ok_list : CallOk K (rList K) (biD .list) := by
  intro R G0 G H env σ tmp os vs ds z Q S hl h hz q
  unfold biD at hz
  split at hz <;> try contradiction
  · cases hz
    obtain ⟨o, v, rfl, rfl, ho, e⟩ := one_of S hl h
    obtain ⟨a, xs, rfl, ha, ra⟩ := S.resL ho e
    exact ⟨a, xs, rfl, .inl (SqL.of ha), fun l hl' => q _ G _ (Same.refl _) ((zip_drop S).newL hl' ra)⟩
  · cases hz
    obtain ⟨o, v, rfl, rfl, ho, e⟩ := one_of S hl h
    obtain ⟨a, xs, rfl, ha, ra⟩ := (S.resT ho e (fun ds => by intro z; cases z)).tupI
    exact ⟨a, xs, rfl, .inr (SqT.of (S.gh _ _ ha)), fun l hl' => q _ G _ (Same.refl _) ((zip_drop S).newL hl' ra)⟩
def rTuple (K : PySem.W.Frag) : List V → Hp → VK → Prop := fun xs H Q => ∃ p ys, xs = [.ref p] ∧ ((SqL K H p ys ∧ ∀ l, H l = none → Q (.ref l) (upd H l (.tup ys))) ∨ (SqT K H p ys ∧ Q (.ref p) H))
theorem ok_tuple : CallOk K (rTuple K) (biD .tuple) := by
  intro R G0 G H env σ tmp os vs ds z Q S hl h hz q
  unfold biD at hz
  split at hz <;> try contradiction
  · cases hz
    obtain ⟨o, v, rfl, rfl, ho, e⟩ := one_of S hl h
    obtain ⟨a, xs, rfl, ha, ra⟩ := S.resL ho e
    refine ⟨a, xs, rfl, .inl ⟨SqL.of ha, fun l hl' => ?_⟩⟩
    obtain ⟨S', g⟩ := (zip_drop S).newT hl' ra
    exact q _ _ _ g S'
  · cases hz
    obtain ⟨o, v, rfl, rfl, ho, e⟩ := one_of S hl h
    have T := S.resT ho e (fun ds => by intro z; cases z)
    obtain ⟨a, xs, rfl, ha, ra⟩ := T.tupI
    exact ⟨a, xs, rfl, .inr ⟨SqT.of (S.gh _ _ ha), q _ G H (Same.refl _) ((zip_drop S).pushVa T)⟩⟩
theorem ok_all : CallOk K (rAll K) (biD .all) := by
  intro R G0 G H env σ tmp os vs ds z Q S hl h hz q
  unfold biD at hz
  split at hz <;> try contradiction
  rw [Option.map_eq_some_iff] at hz
  obtain ⟨ns, hn, hz⟩ := hz
  subst hz
  have en := allBools_eq hn
  subst en
  obtain ⟨o, v, rfl, rfl, ho, e⟩ := one_of S hl h
  obtain ⟨a, xs, rfl, ha, ra⟩ := S.resL ho e
  rw [ra.bools] at ha
  exact ⟨a, ns, rfl, SqL.of ha, q _ G H (Same.refl _) ((zip_drop S).pushVa (.bl _))⟩
theorem ok_any : CallOk K (rAny K) (biD .any) := by
  intro R G0 G H env σ tmp os vs ds z Q S hl h hz q
  unfold biD at hz
  split at hz <;> try contradiction
  rw [Option.map_eq_some_iff] at hz
  obtain ⟨ns, hn, hz⟩ := hz
  subst hz
  have en := allBools_eq hn
  subst en
  obtain ⟨o, v, rfl, rfl, ho, e⟩ := one_of S hl h
  obtain ⟨a, xs, rfl, ha, ra⟩ := S.resL ho e
  rw [ra.bools] at ha
  exact ⟨a, ns, rfl, SqL.of ha, q _ G H (Same.refl _) ((zip_drop S).pushVa (.bl _))⟩
theorem insI_perm (x : Int) : ∀ l : List Int, (insI x l).Perm (x :: l)
  | [] => List.Perm.refl _
  | y :: r => by
    unfold insI
    split
    · exact List.Perm.refl _
    · exact ((insI_perm x r).cons y).trans (List.Perm.swap x y r)
theorem sortI_perm : ∀ l : List Int, (sortI l).Perm l
  | [] => List.Perm.refl _
  | x :: r => (insI_perm x _).trans ((sortI_perm r).cons x)
theorem insI_sorted (x : Int) : ∀ l : List Int, l.Pairwise (· ≤ ·) → (insI x l).Pairwise (· ≤ ·)
  | [], _ => List.pairwise_singleton _ _
  | y :: r, h => by
    obtain ⟨h1, h2⟩ := List.pairwise_cons.mp h
    unfold insI
    split
    · rename_i hle
      refine List.pairwise_cons.mpr ⟨fun z hz => ?_, h⟩
      rcases List.mem_cons.mp hz with e | e
      · omega
      · have := h1 z e
        omega
    · rename_i hle
      refine List.pairwise_cons.mpr ⟨fun z hz => ?_, insI_sorted x r h2⟩
      rcases List.mem_cons.mp ((insI_perm x r).mem_iff.mp hz) with e | e
      · omega
      · exact h1 z e
theorem sortI_sorted : ∀ l : List Int, (sortI l).Pairwise (· ≤ ·)
  | [] => List.Pairwise.nil
  | x :: r => insI_sorted x _ (sortI_sorted r)
theorem perm_sorted_eq : ∀ {a b : List Int}, a.Perm b → a.Pairwise (· ≤ ·) → b.Pairwise (· ≤ ·) → a = b := fun p ha hb => p.eq_of_pairwise (fun x y _ _ h1 h2 => Int.le_antisymm h1 h2) ha hb
theorem allRows_eq : ∀ {ds : List PyData} {rows : List (List Int)}, allRows ds = some rows → ds = rows.map fun r => .list (r.map .int)
  | [], _, h => by cases h; rfl
  | .list es :: r, rows, h => by
    unfold allRows at h
    simp only [Option.bind_eq_some_iff] at h
    obtain ⟨x, h1, xs, h2, h3⟩ := h
    cases h3
    rw [allInts_eq h1, allRows_eq h2]
    rfl
  | .none :: _, _, h => by cases h
  | .bool _ :: _, _, h => by cases h
  | .int _ :: _, _, h => by cases h
  | .str _ :: _, _, h => by cases h
  | .tuple _ :: _, _, h => by cases h
  | .dict _ :: _, _, h => by cases h
theorem lay_ints : ∀ ns : List Int, PyData.canLayAll0 (ns.map .int) = true
  | [] => by rw [List.map_nil, PyData.canLayAll0]
  | n :: ns => by rw [List.map_cons, PyData.canLayAll0, PyData.canLay0, lay_ints ns]; rfl
theorem lay_rows : ∀ rows : List (List Int), PyData.canLayAll0 (rows.map fun r => .list (r.map .int)) = true
  | [] => by rw [List.map_nil, PyData.canLayAll0]
  | r :: rows => by rw [List.map_cons, PyData.canLayAll0, PyData.canLay0, lay_ints r, lay_rows rows]; rfl
theorem each_rows {G : Hp} : ∀ {xs : List V} {rows : List (List Int)}, RpAll K G xs (rows.map fun r => .list (r.map .int)) → PySem.W.EachIs (fun x b => Rp K G x (.list (b.map .int))) xs rows
  | [], [], _ => .nil
  | x :: xs, r :: rows, h => by
    cases h with
    | cons h t => exact .cons h (each_rows t)
  | [], r :: rows, h => by cases h
  | x :: xs, [], h => by cases h
theorem rows_each {G : Hp} : ∀ {xs : List V} {rows : List (List Int)}, PySem.W.EachIs (fun x b => Rp K G x (.list (b.map .int))) xs rows → RpAll K G xs (rows.map fun r => .list (r.map .int))
  | _, _, .nil => .nil
  | _, _, .cons h t => .cons h (rows_each t)
theorem ok_sorted : CallOk K (fun vs H Q => rSortedI K vs H Q ∨ rSortedR K vs H Q) (biD .sorted) := by
  intro R G0 G H env σ tmp os vs ds z Q S hl h hz q
  unfold biD at hz
  split at hz <;> try contradiction
  split at hz
  · rename_i ns hn
    cases hz
    have en := allInts_eq hn
    subst en
    obtain ⟨o, v, rfl, rfl, ho, e⟩ := one_of S hl h
    obtain ⟨a, xs, rfl, ha, ra⟩ := S.resL ho e
    rw [ra.ints] at ha
    refine .inl ⟨a, ns, rfl, SqL.of ha, fun ms p pm ps hp => ?_⟩
    have em : ms = sortI ns := perm_sorted_eq (pm.trans (sortI_perm ns).symm) ps (sortI_sorted ns)
    subst em
    exact q _ G _ (Same.refl _) ((zip_drop S).newL hp (RpAll.ofInts _))
  · rw [Option.bind_eq_some_iff] at hz
    obtain ⟨rows, hr, hz⟩ := hz
    cases hz
    have en := allRows_eq hr
    subst en
    obtain ⟨o, v, rfl, rfl, ho, e⟩ := one_of S hl h
    obtain ⟨a, xs, rfl, ha, ra⟩ := S.resL ho e
    refine .inr ⟨a, xs, rows, fun x b => Rp K G x (.list (b.map .int)), rfl, SqL.of ha, (ra.mono S.gh).dp _ (lay_rows rows), each_rows ra, fun ys p he hp => ?_⟩
    exact q _ G _ (Same.refl _) ((zip_drop S).newL hp (rows_each he))
def rDivmod : List V → Hp → VK → Prop := fun xs H Q => ∃ i j, xs = [.int i, .int j] ∧ CDivP i j ∧ ∀ p, H p = none → Q (.ref p) (upd H p (.tup [.int (i / j), .int (i % j)]))
theorem divP_of {i j : Int} (h0 : 0 < j) (h : j.natAbs.log2 < 9000) : CDivP i j := by
  refine ⟨h0, ?_⟩
  unfold Builtin.divisionGoesByPylong
  have hj : (j == 0) = false := beq_eq_false_iff_ne.mpr (by omega)
  simp only [hj, Bool.false_eq_true, if_false]
  have : ¬ (j.natAbs.log2 / 30 + 1 > 300) := by omega
  simp only [decide_eq_false this, Bool.false_and]
theorem ok_divmod : CallOk K rDivmod (biD .divmod) := by
  intro R G0 G H env σ tmp os vs ds z Q S hl h hz q
  unfold biD at hz
  split at hz <;> try contradiction
  split at hz
  · rename_i hd
    cases hz
    obtain ⟨v, w, rfl, r1, r2⟩ := two_of S hl h
    have e1 := r1.intI
    have e2 := r2.intI
    subst e1
    subst e2
    unfold divOk at hd
    simp only [Bool.and_eq_true, decide_eq_true_eq] at hd
    refine ⟨_, _, rfl, divP_of hd.1 hd.2, fun p hp => ?_⟩
    obtain ⟨S', g⟩ := (zip_drop S).newT hp (ds := [.int _, .int _]) (.cons (.int _) (.cons (.int _) .nil))
    exact q _ _ _ g S'
  · cases hz

/-! ### repr -/
mutual
theorem shown_wsz : ∀ d : PyData, d.canLay0 = true → d.shown.length ≤ wsz d
  | .none, _ => by decide
  | .bool true, _ => by decide
  | .bool false, _ => by decide
  | .int i, _ => by
    have h := int_text_length_le (a := i) (k := i.natAbs.log2 + 1) (by omega) (by omega)
    show (Str.ofString (toString i)).length ≤ i.natAbs.log2 + 3
    rw [PySem.ofString_length]
    omega
  | .str x, h => by
    have hx : ∀ c ∈ x.cps.toList, c < 16 ^ 8 := fun c hc => by
      have h' : PyData.strOk x = true := by simpa [PyData.canLay0] using h
      unfold PyData.strOk at h'
      have h2 := Array.all_eq_true.mp h'
      obtain ⟨i, hi, e⟩ := Array.mem_iff_getElem.mp (Array.mem_toList_iff.mp hc)
      have h3 := h2 i hi
      rw [e] at h3
      have h4 := of_decide_eq_true h3
      omega
    have := StrLaws.reprText_len x hx
    simpa [PyData.shown, wsz] using this
  | .list ds, h => by
    have h' : PyData.canLayAll0 ds = true := by simpa [PyData.canLay0] using h
    have h1 := listText_len_le (PyData.shownAll ds)
    have h2 := shownAll_wsz ds h'
    simp only [PyData.shown, wsz]
    have h3 := shownAll_len ds
    omega
  | .tuple ds, h => by
    have h' : PyData.canLayAll0 ds = true := by simpa [PyData.canLay0] using h
    have h1 := tupleText_len_le (PyData.shownAll ds)
    have h2 := shownAll_wsz ds h'
    simp only [PyData.shown, wsz]
    have h3 := shownAll_len ds
    omega
  | .dict _, h => by simp [PyData.canLay0] at h
theorem shownAll_wsz : ∀ ds : List PyData, PyData.canLayAll0 ds = true → ((PyData.shownAll ds).map (·.length)).sum + 2 * ds.length ≤ wszs ds
  | [], _ => by simp [PyData.shownAll, wszs]
  | d :: ds, h => by
    have h' : d.canLay0 = true ∧ PyData.canLayAll0 ds = true := by simpa [PyData.canLayAll0] using h
    have h1 := shown_wsz d h'.1
    have h2 := shownAll_wsz ds h'.2
    simp only [PyData.shownAll, wszs, List.map_cons, List.sum_cons, List.length_cons]
    omega
theorem shownAll_len : ∀ ds : List PyData, (PyData.shownAll ds).length = ds.length
  | [] => rfl
  | d :: ds => by
    have := shownAll_len ds
    simp only [PyData.shownAll, List.length_cons, this]
end
def rRepr (K : PySem.W.Frag) : List V → Hp → VK → Prop := fun vs H Q => ∃ v d, vs = [v] ∧ Rp K H v d ∧ reprOk d = true ∧ Q (.str d.shown) H
theorem cr_repr {X : Cx} (hg : X.A.guards = some []) (hu : X.A.units + 150 < cLine) : CallR X (.builtin "repr") (rRepr X.K) := by
  intro pins s σ H vs us Q I r h
  obtain ⟨v, d, rfl, rd, ok, q⟩ := h
  obtain ⟨u, rfl, rv⟩ := vals1 r
  unfold reprOk at ok
  simp only [Bool.and_eq_true, decide_eq_true_eq] at ok
  obtain ⟨⟨⟨hc, hsh⟩, hd⟩, hz⟩ := ok
  have hl := line_eq
  have hz' : d.shown.length ≤ sizeLine := by
    have := shown_wsz d hc
    omega
  obtain ⟨as, rr⟩ := Dp.reads I d v u (rd.dp d hc) rv
  have nd := PyData.hasDict_of_canLay d hc
  cases d with
  | none =>
    have e := rd.noneI
    subst e
    cases rv
    exact PySem.P.repr_of_none ⟨.str _, H, I.tok _, ⟨_, rfl⟩, q⟩
  | bool b =>
    have e := rd.boolI
    subst e
    cases rv
    exact PySem.P.repr_of_bool ⟨.str _, H, I.tok _, ⟨_, rfl⟩, by simpa [PyData.shown] using q⟩
  | int i =>
    have e := rd.intI
    subst e
    obtain ⟨t, rfl⟩ := rv
    exact PySem.P.repr_of_int (by simpa [PyData.showable] using hsh) ⟨.str _, H, I.tok _, ⟨_, rfl⟩, by simpa [PyData.shown] using q⟩
  | str x =>
    have e := rd.strI
    subst e
    obtain ⟨t, rfl⟩ := rv
    exact PySem.P.repr_of_str ⟨.str _, H, I.tok _, ⟨_, rfl⟩, by simpa [PyData.shown] using q⟩ (by simpa [PyData.shown] using hz')
  | list ds =>
    obtain ⟨a, xs, e, _⟩ := rd.listI
    subst e
    cases rv
    exact repr_of_reads' rr hsh (PyData.noDict_hsm nd) hg (by omega) (fun _ _ e => e) (fun h' u' tk hk => ⟨.str _, H, I.kept hk, ⟨_, rfl⟩, q⟩) hz'
  | tuple ds =>
    obtain ⟨a, xs, e, _⟩ := rd.tupI
    subst e
    cases rv
    exact repr_of_reads' rr hsh (PyData.noDict_hsm nd) hg (by omega) (fun _ _ e => e) (fun h' u' tk hk => ⟨.str _, H, I.kept hk, ⟨_, rfl⟩, q⟩) hz'
  | dict _ => simp [PyData.canLay0] at hc
theorem ok_repr : CallOk K (rRepr K) (biD .repr) := by
  intro R G0 G H env σ tmp os vs ds z Q S hl h hz q
  unfold biD at hz
  split at hz <;> try contradiction
  split at hz
  · rename_i hr
    cases hz
    obtain ⟨o, v, rfl, rfl, ho, e⟩ := one_of S hl h
    exact ⟨v, _, rfl, S.res ho e, hr, q _ G H (Same.refl _) ((zip_drop S).pushVa (.str _))⟩
  · cases hz
/-- repr of a list that is made for it -/
theorem ok_reprL {ta : TA} {fa : EnvD → Option (List Opd × EnvD)} (ha : TAok K ta fa) : TEok K (tCB (rRepr K) (tCons (tLst ta) tNil)) (fun env => (fa env).bind fun p => (ress p.2 p.1).bind fun ds => if reprOk (.list ds) then some (.va (.str (PyData.list ds).shown), p.2) else none) := by
  intro R G0 G H env σ tmp o env' Q S e q
  simp only [Option.bind_eq_some_iff] at e
  obtain ⟨⟨os, e1⟩, h1, ds, h2, e⟩ := e
  split at e
  · rename_i hr
    cases e
    refine ha _ _ _ _ _ _ _ _ _ _ S h1 fun vs G1 H1 hl g1 S1 => ?_
    have r := ress_rp _ _ _ S1 hl h2
    have hlen : vs.length ≤ sizeLine := by
      rw [r.len, line_eq]
      unfold reprOk at hr
      simp only [Bool.and_eq_true, decide_eq_true_eq] at hr
      have h3 := hr.2
      simp only [wsz] at h3
      have : ∀ l : List PyData, l.length ≤ wszs l := by
        intro l
        induction l with
        | nil => exact Nat.le_refl _
        | cons x l ih =>
          simp only [wszs, List.length_cons]
          omega
      have := this ds
      omega
    refine ⟨hlen, fun p hp => ⟨.ref p, .list ds, rfl, .lst upd_same (r.mono (same_new hp)), hr, ?_⟩⟩
    exact q _ G1 _ g1 (((zip_drop S1).grow (same_new hp)).pushVa (.str _))
  · cases e

/-! ### isinstance -/
def Ty.name : Ty → String
  | .int => "int" | .bool => "bool" | .str => "str" | .list => "list" | .tuple => "tuple" | .dict => "dict"
def tyName : PyData → String
  | .none => "NoneType" | .bool _ => "bool" | .int _ => "int" | .str _ => "str" | .list _ => "list" | .tuple _ => "tuple" | .dict _ => "dict"
theorem kit_is (d : PyData) (h : plainD d = true) (t : Ty) : kitB (tyName d) t.name = some (isTy d t) := by
  cases d with
  | none =>
    rw [show isTy (.none) t = isTy (.none) t by cases t <;> rfl]
    show kitB "NoneType" t.name = some (isTy (.none) t)
    cases t <;> decide +kernel
  | bool b =>
    rw [show isTy (.bool b) t = isTy (.bool true) t by cases t <;> rfl]
    show kitB "bool" t.name = some (isTy (.bool true) t)
    cases t <;> decide +kernel
  | int i =>
    rw [show isTy (.int i) t = isTy (.int 0) t by cases t <;> rfl]
    show kitB "int" t.name = some (isTy (.int 0) t)
    cases t <;> decide +kernel
  | str x =>
    rw [show isTy (.str x) t = isTy (.str Str.empty) t by cases t <;> rfl]
    show kitB "str" t.name = some (isTy (.str Str.empty) t)
    cases t <;> decide +kernel
  | list ds =>
    rw [show isTy (.list ds) t = isTy (.list []) t by cases t <;> rfl]
    show kitB "list" t.name = some (isTy (.list []) t)
    cases t <;> decide +kernel
  | tuple ds =>
    rw [show isTy (.tuple ds) t = isTy (.tuple []) t by cases t <;> rfl]
    show kitB "tuple" t.name = some (isTy (.tuple []) t)
    cases t <;> decide +kernel
  | dict _ => cases h
theorem tyX_of (h : plainD d = true) (r : Rp K H v d) : TyX K H v (.type (tyName d)) := by
  cases d with
  | none => have e := r.noneI; subst e; exact .base .non
  | bool b => have e := r.boolI; subst e; exact .base (.bl _)
  | int i => have e := r.intI; subst e; exact .base (.int _)
  | str x => have e := r.strI; subst e; exact .base (.str _)
  | list ds => obtain ⟨a, xs, e, ha, _⟩ := r.listI; subst e; exact .base (.lst ha)
  | tuple ds => obtain ⟨a, xs, e, ha, _⟩ := r.tupI; subst e; exact .base (.tup ha)
  | dict _ => cases h
theorem kitAny_is (d : PyData) (h : plainD d = true) : ∀ ts : List Ty, PySem.W.kitAny K (.type (tyName d)) (ts.map fun t => Value.type t.name) = some (ts.any (isTy d))
  | [] => kitAny_nil
  | t :: ts => by
    rw [List.map_cons, List.any_cons]
    refine kitAny_cons (kit_ty (kit_is d h t)) (fun hb => ?_) fun hb => ?_
    · rw [hb, Bool.false_or]
      exact kitAny_is d h ts
    · rw [hb, Bool.true_or]
theorem ok_isi1 {t : Ty} {ta : TE} {fa : EnvD → Option (Opd × EnvD)} (ha : TEok K ta fa) : TEok K (tCB (rIsi K) (tCons ta (tCons (tC (.ty t.name)) tNil))) (fun env => (fa env).bind fun p => (res p.2 p.1).bind fun d => if plainD d && decide ([t].length ≤ 100) then some (.va (.bool ([t].any (isTy d))), p.2) else none) := by
  intro R G0 G H env σ tmp o env' Q S e q
  simp only [Option.bind_eq_some_iff] at e
  obtain ⟨⟨o1, e1⟩, h1, d, h2, e⟩ := e
  split at e
  · rename_i hp
    simp only [Bool.and_eq_true, decide_eq_true_eq] at hp
    replace hp := hp.1
    cases e
    refine ha _ _ _ _ _ _ _ _ _ _ S h1 fun v G1 H1 g1 S1 => ?_
    have r := S1.res S1.top h2
    refine ⟨v, .ty t.name, .type (tyName d), .type t.name, _, rfl, .ty _, tyX_of hp r, kit_ty (kit_is d hp t), ?_⟩
    have e : [t].any (isTy d) = isTy d t := by simp
    rw [e] at q
    exact q _ G1 H1 g1 (S1.pop.pushVa (.bl _))
  · cases e
def tysV (ts : List Ty) : List V := ts.map fun t => V.ty t.name
def tTys (ts : List Ty) : TA := fun _ H Q => Q (tysV ts) H
theorem paired_tys : ∀ ts : List Ty, Paired ClsV (tysV ts) (ts.map fun t => Value.type t.name)
  | [] => .nil
  | t :: ts => .cons (.ty _) (paired_tys ts)
theorem ok_isiT {ts : List Ty} {ta : TE} {fa : EnvD → Option (Opd × EnvD)} (ha : TEok K ta fa) : TEok K (tCB (rIsiT K) (tCons ta (tCons (tTup (tTys ts)) tNil))) (fun env => (fa env).bind fun p => (res p.2 p.1).bind fun d => if plainD d && decide (ts.length ≤ 100) then some (.va (.bool (ts.any (isTy d))), p.2) else none) := by
  intro R G0 G H env σ tmp o env' Q S e q
  simp only [Option.bind_eq_some_iff] at e
  obtain ⟨⟨o1, e1⟩, h1, d, h2, e⟩ := e
  split at e
  · rename_i hp
    simp only [Bool.and_eq_true, decide_eq_true_eq] at hp
    obtain ⟨hp, hts⟩ := hp
    cases e
    refine ha _ _ _ _ _ _ _ _ _ _ S h1 fun v G1 H1 g1 S1 => ?_
    have r := S1.res S1.top h2
    · refine ⟨?_, fun p hp' => ?_⟩
      · unfold tysV
        rw [List.length_map, line_eq]
        omega
      · refine ⟨v, p, tysV ts, .type (tyName d), _, _, rfl, upd_same, paired_tys ts, tyX_of hp (r.mono (same_new hp')), kitAny_is d hp ts, ?_⟩
        exact q _ G1 _ g1 ((S1.pop.grow (same_new hp')).pushVa (.bl _))
  · cases e
end
end Pd

/-! targets, what loops walk, comprehensions, lists that are changed, calls of defs -/
namespace Pd
open PySem PySem.Spec PyProof.Rows L2

/-! ### behind a call -/
section
variable {K : PySem.W.Frag} {R : RR} {G0 G G' H H' : Hp} {env env' : EnvD} {σ : L2.St} {tmp : Tmp} {o : Opd} {v : V} {d : PyData}
theorem SR.after (S : SR K R G0 G H env σ tmp) (g : Same G G') (gr : ∀ b, G' b ≠ none → G b ≠ none ∨ H b = none) (hh : Same G' H') (hk : Same H H') : SR K R G0 G' H' env σ tmp := by
  have hfree : ∀ a, G a = none → (∃ xs, H a = some (.lst xs)) → G' a = none := fun a h1 ⟨xs, h2⟩ => by
    cases e : G' a with
    | none => rfl
    | some o =>
      rcases gr a (by rw [e]; simp) with z | z
      · exact absurd h1 z
      · rw [h2] at z
        cases z
  refine ⟨hh, S.rh.trans hk, S.g0.trans g, fun b hb => ?_, S.len, fun i c h => (S.slot i c h).keep g fun a xs _ _ h => hk a _ h, fun i a h => ⟨hfree a (S.free i a h).1 (S.ownH h), (S.free i a h).2⟩, S.apart, fun q hq => (S.tm q hq).keep g fun a xs _ _ h => hk a _ h,
    fun a h => ⟨hfree a (S.freeT a h).1 (S.ownTH h), (S.freeT a h).2⟩, S.nd, S.cross, S.iod⟩
  rcases gr b hb with z | z
  · exact S.gr b z
  · exact .inr (S.rh.free z)
/-- what a call hands back -/
def RvR (K : PySem.W.Frag) (H0 G' H' : Hp) : Rv → V → Prop
  | .va d, v => Rp K G' v d
  | .ow ds, v => ∃ p xs, v = .ref p ∧ H0 p = none ∧ G' p = none ∧ H' p = some (.lst xs) ∧ RpAll K G' xs ds
theorem SR.pushRv {r : Rv} {H0 : Hp} (S : SR K R G0 G' H' env σ tmp) (h : RvR K H0 G' H' r v) (hR : Same R.h H0) (ho : ∀ i a, OwnS env σ i a → H0 a ≠ none) (ht : ∀ a, a ∈ ownT tmp → H0 a ≠ none) : SR K R G0 G' H' env σ ((r.opd, v) :: tmp) := by
  cases r with
  | va d => exact S.pushVa h
  | ow ds =>
    obtain ⟨p, xs, e, h0, hg, hh, ra⟩ := h
    subst e
    refine ⟨S.gh, S.rh, S.g0, S.gr, S.len, S.slot, S.free, S.apart, fun q hq => ?_, fun a ha => ?_, ?_, fun i a hi ha => ?_, S.iod⟩
    · rcases List.mem_cons.mp hq with z | z
      · subst z
        exact ⟨p, xs, rfl, hh, ra⟩
      · exact S.tm q z
    · have ha : a ∈ ownT ((Opd.ow ds, V.ref p) :: tmp) := ha
      rw [ownT_ow] at ha
      rcases List.mem_cons.mp ha with z | z
      · subst z
        exact ⟨hg, hR.free h0⟩
      · exact S.freeT a z
    · show (ownT ((Opd.ow ds, V.ref p) :: tmp)).Nodup
      rw [ownT_ow]
      exact List.nodup_cons.mpr ⟨fun z => ht p z h0, S.nd⟩
    · have ha : a ∈ ownT ((Opd.ow ds, V.ref p) :: tmp) := ha
      rw [ownT_ow] at ha
      rcases List.mem_cons.mp ha with z | z
      · subst z
        exact ho i a hi h0
      · exact S.cross i a hi z
end

/-- what a def promises, of data -/
def spD (K : PySem.W.Frag) (g : Sig) : Sp := fun vs H Q _ =>
  (g.io = false ∧ ∃ (G : Hp) (ds : List PyData) (r : Rv) (x : List PyData), Same G H ∧ RpAll K G vs ds ∧ g.run ds = some (r, x) ∧
    ∀ v G' H', Same G G' → (∀ b, G' b ≠ none → G b ≠ none ∨ H b = none) → Same G' H' → Same H H' → RvR K H G' H' r v → Q v H') ∨
  (g.io = true ∧ ∃ (G : Hp) (a : Addr) (xs : List V) (ds0 : List PyData) (ws : List V) (ds : List PyData) (r : Rv) (x : List PyData), vs = .ref a :: ws ∧ Same G H ∧ H a = some (.lst xs) ∧ G a = none ∧ RpAll K G xs ds0 ∧ RpAll K G ws ds ∧
    g.run (.list ds0 :: ds) = some (r, x) ∧
    ∀ v G' H' ys, Same G G' → (∀ b, G' b ≠ none → G b ≠ none ∨ H b = none) → Same G' H' → (∀ b o, b ≠ a → H b = some o → H' b = some o) → H' a = some (.lst ys) → RpAll K G' ys x → RvR K H G' H' r v → Q v H')

/-- a def keeps its promise where nothing shows itself (no repr is under way) -/
structure FnD (P : Program) (w : World) (K : PySem.W.Frag) (mg : Str → Option Value) (base : Heap) (k : Nat) (f : Addr) (fd : FuncData) (ps : List Str) (sp : Sp) : Prop where
  len : ∀ vs H Q E, sp vs H Q E → vs.length = ps.length
  run : ∀ (A : Around) (outer : List Env) (s : Shared) (H : Hp) (args : Args) (us : List Value) (vs : List V) (Q : VK) (E : XK), Room k A → A.guards = some [] → Env0 P w K mg base A outer s H → BindsTo s fd args (ps.zip us) → Vals vs us → sp vs H Q E →
    codeAny (model P w) A (.call (.ref f) args) (CR CX0 outer P w H s Q E) s
theorem FnD.mono {P : Program} {w : World} {K : PySem.W.Frag} {mg : Str → Option Value} {base : Heap} {j k : Nat} {f : Addr} {fd : FuncData} {ps : List Str} {sp : Sp} (F : FnD P w K mg base j f fd ps sp) (h : j ≤ k) : FnD P w K mg base k f fd ps sp :=
  ⟨F.len, fun A outer s H args us vs Q E hr => F.run A outer s H args us vs Q E (hr.mono h)⟩

/-! ### a call -/
def permF {α : Type} (xs : List α) (pm : List Nat) : List α := pm.filterMap fun j => xs[j]?
theorem permF_vals {vs : List V} {us : List Value} (h : Vals vs us) : ∀ pm : List Nat, Vals (permF vs pm) (permF us pm)
  | [] => .nil
  | j :: pm => by
    unfold permF
    rw [List.filterMap_cons, List.filterMap_cons]
    cases e : vs[j]? with
    | none =>
      rw [h.none_of e]
      exact permF_vals h pm
    | some x =>
      obtain ⟨u, hu, r⟩ := h.get e
      rw [hu]
      exact .cons r (permF_vals h pm)
theorem perm_rp {K : PySem.W.Frag} {G : Hp} {vs : List V} {ds : List PyData} (r : RpAll K G vs ds) : ∀ (pm : List Nat) (as : List PyData), perm ds pm = some as → RpAll K G (permF vs pm) as
  | [], as, h => by
    cases h
    exact .nil
  | j :: pm, as, h => by
    unfold perm at h
    simp only [Option.bind_eq_some_iff] at h
    obtain ⟨x, hx, ys, hy, e⟩ := h
    cases e
    obtain ⟨v, hv, rv⟩ := r.get hx
    unfold permF
    rw [List.filterMap_cons, hv]
    exact .cons rv (perm_rp r pm ys hy)
theorem permF_from {α : Type} : ∀ (xs ys : List α), permF (ys ++ xs) (List.range' ys.length xs.length) = xs
  | [], ys => rfl
  | x :: xs, ys => by
    have ih := permF_from xs (ys ++ [x])
    rw [List.length_append, List.append_assoc] at ih
    have ih : permF (ys ++ x :: xs) (List.range' (ys.length + 1) xs.length) = xs := ih
    rw [List.length_cons, List.range'_succ]
    unfold permF at ih ⊢
    rw [List.filterMap_cons, List.getElem?_append_right (Nat.le_refl _), Nat.sub_self]
    show x :: _ = _
    rw [ih]
theorem permF_range {α : Type} (xs : List α) : permF xs (List.range xs.length) = xs := by
  rw [List.range_eq_range']
  exact permF_from xs []
/-- f(.., k = ..): the values in the parameters' order -/
def tCallD (sp : Sp) (m n : Nat) (pm : List Nat) (t tk : TA) : TE := fun σ H Q => t σ H fun vs H1 => tk σ H1 fun zs H2 => vs.length = m ∧ zs.length = n ∧ sp (permF (vs ++ zs) pm) H2 Q E0
section
variable {X : Cx}
theorem starEach_plain (env : Env) : ∀ es : List Expr, plainArgs es = true → starEach es env = es.map fun e => (false, eval e env)
  | [], _ => rfl
  | e :: es, h => by
    have h1 : plainArgs es = true ∧ starEach (e :: es) env = (false, eval e env) :: starEach es env := by
      cases e <;> first | exact ⟨h, rfl⟩ | (simp [plainArgs] at h)
    rw [h1.2, starEach_plain env es h1.1]
    rfl
theorem plainArgs_cons {e : Expr} {es : List Expr} (h : plainArgs (e :: es) = true) : plainArgs es = true := by
  cases e <;> first | exact h | (simp [plainArgs] at h)
theorem plainArgs_app {es fs : List Expr} : plainArgs (es ++ fs) = true → plainArgs es = true ∧ plainArgs fs = true := by
  induction es with
  | nil => exact fun h => ⟨rfl, h⟩
  | cons e es ih =>
    intro h
    cases e <;> first | exact ih h | (simp [plainArgs] at h)
theorem star_cons (env : Env) {e : Expr} {es : List Expr} (h : plainArgs (e :: es) = true) : starEach (e :: es) env = (false, eval e env) :: starEach es env := by
  rw [starEach_plain env _ h, starEach_plain env _ (plainArgs_cons h)]
  rfl
theorem star_any (env : Env) (pos : Pos) {es : List Expr} (h : plainArgs es = true) : (backTo pos (starEach es env)).any (·.1) = false := by
  rw [starEach_plain env _ h]
  unfold backTo
  rw [List.map_map, List.any_map]
  exact List.any_eq_false.mpr fun _ _ => by simp
theorem star_all (env : Env) (pos : Pos) {es : List Expr} (h : plainArgs es = true) : (backTo pos (starEach es env)).all (fun x => !x.1) = true := by
  rw [starEach_plain env _ h]
  unfold backTo
  rw [List.map_map, List.all_map]
  exact List.all_eq_true.mpr fun _ _ => by simp
theorem kw_names (env : Env) (pos : Pos) : ∀ {kws : List Keyword} {ks : List Str}, kwNames kws = some ks →
    (backToKw pos (keywordEach kws env)).all (·.1.isSome) = true ∧ (backToKw pos (keywordEach kws env)).filterMap (·.1) = ks ∧ (backToKw pos (keywordEach kws env)).any (·.1.isNone) = false
  | [], ks, h => by
    cases h
    exact ⟨rfl, rfl, rfl⟩
  | ⟨some k, e, p⟩ :: r, ks, h => by
    unfold kwNames at h
    rw [Option.bind_eq_some_iff] at h
    obtain ⟨ks', h1, h2⟩ := h
    cases h2
    obtain ⟨a, b, c⟩ := kw_names env pos h1
    have hc : backToKw pos (keywordEach (⟨some k, e, p⟩ :: r) env) = (some k, do let v ← eval e env; standAt pos; pure v) :: backToKw pos (keywordEach r env) := rfl
    rw [hc]
    refine ⟨?_, ?_, ?_⟩
    · rw [List.all_cons, a]
      rfl
    · rw [List.filterMap_cons, b]
    · rw [List.any_cons, c]
      rfl
  | ⟨none, e, p⟩ :: r, ks, h => by cases h

/-- how a call's values come to the parameters -/
def BindsD (K : PySem.W.Frag) (fd : FuncData) (ps : List Str) (m : Nat) (ks : List Str) (pm : List Nat) : Prop :=
  ∀ (s : Shared) (us ws : List Value), K.In s.heap → us.length = m → ws.length = ks.length → BindsTo s fd ⟨us, ks.zip ws⟩ (ps.zip (permF (us ++ ws) pm))
variable {k : Nat} {f : Addr} {fd : FuncData} {ps ks : List Str} {sp : Sp} {x : Str} {p pos : Pos} {es : List Expr} {kws : List Keyword} {t tk : TA} {m : Nat} {pm : List Nat}
theorem run_fnD {pins : List (Addr × Obj)} {σ : L2.St} {H : Hp} {s : Shared} {Q : VK} {us ws : List Value} {vs zs : List V} (F : FnD X.prog X.w X.K X.mg X.base k f fd ps sp) (hr : Room k X.A) (hg : X.A.guards = some []) (hb : BindsD X.K fd ps m ks pm)
    (I : Inv X pins σ H s) (r : Vals vs us) (rz : Vals zs ws) (h : vs.length = m ∧ zs.length = ks.length ∧ sp (permF (vs ++ zs) pm) H Q E0) : wpAny (model X.prog X.w) X.A (call (.ref f) us (ks.zip ws)) (EP X pins σ Q) X.xe s := by
  obtain ⟨l1, l2, h⟩ := h
  have lu : us.length = m := by rw [← r.length]; exact l1
  have lw : ws.length = ks.length := by rw [← rz.length]; exact l2
  refine wpAny_call (codeAny_mono (F.run X.A X.stack s H ⟨us, ks.zip ws⟩ (permF (us ++ ws) pm) (permF (vs ++ zs) pm) Q E0 hr hg I.env0 (hb s us ws I.kIn lu lw) (permF_vals (r.append rz) pm) h) fun r s' hq => ?_)
  cases r with
  | error e => exact False.elim hq
  | ok fl =>
    cases fl with
    | ret u => exact I.after hq
    | next => exact False.elim hq
    | brk => exact False.elim hq
    | cont => exact False.elim hq
theorem pe_callD {e : Expr} {rest : List Expr} (F : FnD X.prog X.w X.K X.mg X.base k f fd ps sp) (hr : Room k X.A) (hg : X.A.guards = some []) (hgl : Gl X x) (hm : X.mg x = some (.ref f)) (hk : PySem.W.keepIn X.K (.ref f) = true) (hb : BindsD X.K fd ps m ks pm)
    (hpl : plainArgs (e :: rest) = true) (hks : kwNames kws = some ks) (ha : PA X (e :: rest) t) (hkw : PK X kws tk) (hdb : (x == ("__debug__" : Str)) = false) : PE X (.Call (.Name x p) (e :: rest) kws pos) (tCallD sp m ks.length pm t tk) := by
  refine ⟨fun pins s σ H Q I h => ?_⟩
  refine wpAny_Call_Name_kw (ld_glob I hgl hm ?_ hdb)
  obtain ⟨k1, k2, k3⟩ := kw_names X.env pos hks
  refine PySem.W.callWith_KW (h₀ := X.base) I.ok.mod.kin hk k1 (thn (ha.run pos pins s σ H _ I h) fun us s1 ⟨vs, H1, I1, r, q⟩ => ?_) ?_ (star_cons X.env hpl)
  · refine thn (hkw.run pos pins s1 σ H1 _ I1 q) fun ws s2 ⟨zs, H2, I2, rz, q2⟩ => ⟨I2.kIn, ?_⟩
    rw [k2]
    exact run_fnD F hr hg hb I2 r rz q2
  · rw [star_any X.env pos hpl, k3]
    rfl
theorem pe_callD0 (F : FnD X.prog X.w X.K X.mg X.base k f fd ps sp) (hr : Room k X.A) (hg : X.A.guards = some []) (hgl : Gl X x) (hm : X.mg x = some (.ref f)) (hk : PySem.W.keepIn X.K (.ref f) = true) (hb : BindsD X.K fd ps m ks pm)
    (hks : kwNames kws = some ks) (hkw : PK X kws tk) (hdb : (x == ("__debug__" : Str)) = false) : PE X (.Call (.Name x p) [] kws pos) (tCallD sp m ks.length pm tNil tk) := by
  refine ⟨fun pins s σ H Q I h => ?_⟩
  refine wpAny_Call_Name_kw (ld_glob I hgl hm ?_ hdb)
  obtain ⟨k1, k2, k3⟩ := kw_names X.env pos hks
  refine PySem.W.callWith_KW0 (h₀ := X.base) I.ok.mod.kin hk k1 ?_ ?_
  · refine thn (hkw.run pos pins s σ H _ I h) fun ws s2 ⟨zs, H2, I2, rz, q2⟩ => ⟨I2.kIn, ?_⟩
    rw [k2]
    exact run_fnD F hr hg hb I2 .nil rz q2
  · rw [k3]
    rfl

/-- a list that no one knows any more is written -/
theorem SR.off {K : PySem.W.Frag} {R : RR} {G0 G H H' : Hp} {env : EnvD} {σ : L2.St} {tmp : Tmp} {a : Addr} (S : SR K R G0 G H env σ tmp) (hG : G a = none) (hR : R.h a = none) (h1 : ∀ i, ¬ OwnS env σ i a) (h2 : a ∉ ownT tmp) (hk : ∀ b o, b ≠ a → H b = some o → H' b = some o) : SR K R G0 G H' env σ tmp := by
  refine ⟨fun b o z => hk b o (fun q => ?_) (S.gh b o z), fun b o z => hk b o (fun q => ?_) (S.rh b o z), S.g0, S.gr, S.len, fun j k q => ?_, S.free, S.apart, fun q hq => ?_, S.freeT, S.nd, S.cross, S.iod⟩
  · rw [q, hG] at z
    cases z
  · rw [q, hR] at z
    cases z
  · exact (S.slot j k q).keep (Same.refl _) fun b us hb e1 e2 => hk b _ (fun w => by
      obtain ⟨es', hb⟩ := hb
      refine h1 j ⟨⟨es', ?_⟩, by rw [← w]; exact e1⟩
      rcases hb with hb | hb
      · exact .inl (hb ▸ q)
      · exact .inr (hb ▸ q)) e2
  · refine (S.tm q hq).keep (Same.refl _) fun b us hb e1 e2 => hk b _ (fun w => ?_) e2
    obtain ⟨es', hb⟩ := hb
    obtain ⟨o, w'⟩ := q
    have hb : o = .ow es' := hb
    have e1 : w' = .ref b := e1
    subst hb
    subst e1
    subst w
    refine h2 ?_
    have mem_own : ∀ {t : Tmp}, (Opd.ow es', V.ref b) ∈ t → b ∈ ownT t := by
      intro t
      induction t with
      | nil => intro z; cases z
      | cons q t ih =>
        intro z
        rcases List.mem_cons.mp z with z | z
        · subst z
          exact List.mem_cons_self
        · exact ownT_sub b (ih z)
    exact mem_own hq
/-- the values of a call, then the def's work -/
theorem call_data {K : PySem.W.Frag} {R : RR} {G0 G H : Hp} {env env' : EnvD} {σ : L2.St} {tmp : Tmp} {g : Sig} {os : List Opd} {vs : List V} {pm : List Nat} {o : Opd} {Q : VK} (S : SR K R G0 G H env σ (os.zip vs ++ tmp)) (hl : os.length = vs.length)
    (h : callF g pm env os = some (o, env'))
    (q : ∀ v G' H', Same G G' → SR K R G0 G' H' env' σ ((o, v) :: tmp) → Q v H') : spD K g (permF vs pm) H Q E0 := by
  unfold callF at h
  cases hio : g.io with
  | false =>
    rw [hio] at h
    dsimp only at h
    simp only [Option.bind_eq_some_iff] at h
    obtain ⟨⟨ds, e1⟩, h1, as, h2, ⟨r, x⟩, h3, e⟩ := h
    cases e
    obtain ⟨G1, g1, S1, r1⟩ := frzs_ok _ _ _ _ _ S hl h1
    refine .inl ⟨hio, G1, as, r, x, S1.gh, perm_rp r1 pm as h2, h3, fun v G' H' gg gr hh hk rv => ?_⟩
    have S2 := S1.after gg gr hh hk
    exact q v G' H' (g1.trans gg) (S2.pushRv rv S1.rh (fun i a ha => by
      obtain ⟨xs, z⟩ := S1.ownH ha
      rw [z]
      simp) fun a ha => by
      obtain ⟨xs, z⟩ := S1.ownTH ha
      rw [z]
      simp)
  | true =>
    rw [hio] at h
    dsimp only at h
    cases os with
    | nil => cases h
    | cons o1 rs =>
      cases o1 with
      | va d => cases h
      | ow ds0 =>
        dsimp only at h
        split at h
        · rename_i hpm
          subst hpm
          cases vs with
          | nil => cases hl
          | cons v1 ws =>
            rw [show rs.length + 1 = (v1 :: ws).length from hl, permF_range]
            simp only [Option.bind_eq_some_iff] at h
            obtain ⟨⟨ds, e1⟩, h1, ⟨r, x⟩, hrun, e⟩ := h
            cases e
            have S0 : SR K R G0 G H env σ (rs.zip ws ++ ((.ow ds0, v1) :: tmp)) := S.perm (List.perm_middle.symm)
            obtain ⟨G1, g1, S1, r1⟩ := frzs_ok _ _ _ _ _ S0 (by simpa using hl) h1
            obtain ⟨a, xs, ea, ha, ra⟩ := S1.top
            have ea : v1 = .ref a := ea
            subst ea
            have fr := S1.freeT a (by rw [ownT_ow]; exact List.mem_cons_self)
            have nd := S1.nd
            rw [ownT_ow] at nd
            have nt : a ∉ ownT tmp := (List.nodup_cons.mp nd).1
            have ns : ∀ i, ¬ OwnS e1 σ i a := fun i hi => S1.cross i a hi (by rw [ownT_ow]; exact List.mem_cons_self)
            refine .inr ⟨hio, G1, a, xs, ds0, ws, ds, r, x, rfl, S1.gh, ha, fr.1, ra, r1, hrun, fun v G' H' ys gg gr hh hk hy ry rv => ?_⟩
            have hG'a : G' a = none := by
              cases z : G' a with
              | none => rfl
              | some o' =>
                rcases gr a (by rw [z]; simp) with w | w
                · exact absurd fr.1 w
                · rw [ha] at w
                  cases w
            let H2 : Hp := fun b => if b = a then H a else H' b
            have S2 : SR K R G0 G' H2 e1 σ tmp := S1.pop.after gg gr (fun b o' z => by
              have nb : b ≠ a := fun w => by
                rw [w, hG'a] at z
                cases z
              show (if b = a then H a else H' b) = some o'
              rw [if_neg nb]
              exact hh b o' z) fun b o' z => by
              show (if b = a then H a else H' b) = some o'
              by_cases nb : b = a
              · rw [if_pos nb, ← nb]
                exact z
              · rw [if_neg nb]
                exact hk b o' nb z
            have S3 : SR K R G0 G' H' e1 σ tmp := S2.off hG'a fr.2 ns nt fun b o' nb z => by
              have z : (if b = a then H a else H' b) = some o' := z
              rw [if_neg nb] at z
              exact z
            refine q v G' H' (g1.trans gg) (S3.pushRv rv S1.rh (fun j b hb => ?_) fun b hb => ?_)
            · obtain ⟨us, z⟩ := S1.ownH hb
              rw [z]
              simp
            · obtain ⟨us, z⟩ := S1.pop.ownTH hb
              rw [z]
              simp
        · cases h
      | sl i =>
        dsimp only at h
        split at h
        · rename_i hpm
          subst hpm
          cases vs with
          | nil => cases hl
          | cons v1 ws =>
            rw [show rs.length + 1 = (v1 :: ws).length from hl, permF_range]
            simp only [Option.bind_eq_some_iff] at h
            obtain ⟨⟨ds, e1⟩, h1, h⟩ := h
            have ev : σ[i]? = some (some v1) := S.tm (Opd.sl i, v1) List.mem_cons_self
            have S0 : SR K R G0 G H env σ (rs.zip ws ++ tmp) := S.sub (List.sublist_cons_self _ _)
            obtain ⟨G1, g1, S1, r1⟩ := frzs_ok _ _ _ _ _ S0 (by simpa using hl) h1
            have fin : ∀ (ds0 : List PyData) (c : List PyData → Cell), (c = .ow ∨ c = .io) → e1[i]? = some (c ds0) → ∀ (r : Rv) (x : List PyData), g.run (.list ds0 :: ds) = some (r, x) → o = r.opd → env' = e1.set i (c x) → spD K g (v1 :: ws) H Q E0 := by
              intro ds0 c hc hi r x hrun ho he
              subst ho
              subst he
              have hcell : ∃ a xs, σ[i]? = some (some (.ref a)) ∧ H a = some (.lst xs) ∧ RpAll K G1 xs ds0 := by
                have z := S1.slot i _ hi
                rcases hc with z1 | z1 <;> subst z1 <;> exact z
              obtain ⟨a, xs, ea, ha, ra⟩ := hcell
              rw [ev] at ea
              cases ea
              have hO : OwnS e1 σ i a := by
                rcases hc with z1 | z1 <;> subst z1
                · exact ⟨⟨ds0, .inl hi⟩, ev⟩
                · exact ⟨⟨ds0, .inr hi⟩, ev⟩
              have fr := S1.free i a hO
              refine .inr ⟨hio, G1, a, xs, ds0, ws, ds, r, x, rfl, S1.gh, ha, fr.1, ra, r1, hrun, fun v G' H' ys gg gr hh hk hy ry rv => ?_⟩
              -- the heap behind the call, but for the list itself
              have hG'a : G' a = none := by
                cases z : G' a with
                | none => rfl
                | some o' =>
                  rcases gr a (by rw [z]; simp) with w | w
                  · exact absurd fr.1 w
                  · rw [ha] at w
                    cases w
              let H2 : Hp := fun b => if b = a then H a else H' b
              have S2 : SR K R G0 G' H2 e1 σ tmp := S1.after gg gr (fun b o' z => by
                have nb : b ≠ a := fun w => by
                  rw [w, hG'a] at z
                  cases z
                show (if b = a then H a else H' b) = some o'
                rw [if_neg nb]
                exact hh b o' z) fun b o' z => by
                show (if b = a then H a else H' b) = some o'
                by_cases nb : b = a
                · rw [if_pos nb, ← nb]
                  exact z
                · rw [if_neg nb]
                  exact hk b o' nb z
              have S3 : SR K R G0 G' H' (e1.set i (c x)) σ tmp := S2.write hO (es := x) (by rcases hc with z1 | z1 <;> subst z1 <;> first | exact .inl rfl | exact .inr ⟨rfl, _, hi⟩) ry H' (by
                funext b
                by_cases nb : b = a
                · subst nb
                  rw [upd_same, hy]
                · rw [upd_ne nb]
                  show H' b = if b = a then H a else H' b
                  rw [if_neg nb])
              refine q v G' H' (g1.trans gg) (S3.pushRv rv S1.rh (fun j b hb => ?_) fun b hb => ?_)
              · have hb1 : ∃ us, H b = some (.lst us) := by
                  by_cases hj : j = i
                  · subst hj
                    have := hb.2
                    rw [ev] at this
                    cases this
                    exact ⟨xs, ha⟩
                  · refine S1.ownH (i := j) ⟨?_, hb.2⟩
                    obtain ⟨us, z⟩ := hb.1
                    rw [List.getElem?_set_ne (Ne.symm hj)] at z
                    exact ⟨us, z⟩
                obtain ⟨us, z⟩ := hb1
                rw [z]
                simp
              · obtain ⟨us, z⟩ := S1.ownTH hb
                rw [z]
                simp
            dsimp only at h
            split at h
            · rename_i ds0 hi
              rw [Option.bind_eq_some_iff] at h
              obtain ⟨⟨r, x⟩, hrun, e⟩ := h
              cases e
              exact fin ds0 .ow (.inl rfl) hi r x hrun rfl rfl
            · rename_i ds0 hi
              rw [Option.bind_eq_some_iff] at h
              obtain ⟨⟨r, x⟩, hrun, e⟩ := h
              cases e
              exact fin ds0 .io (.inr rfl) hi r x hrun rfl rfl
            · cases h
        · cases h
theorem ok_callD {K : PySem.W.Frag} {Γ : Tab} {n : Nat} {g : Sig} {pm : List Nat} {m l : Nat} {ta tk : TA} {fa fk : EnvD → Option (List Opd × EnvD)} (hg : Γ n = some g) (ha : TAok K ta fa) (hk : TAok K tk fk) (hm : ∀ e p, fa e = some p → p.1.length = m) (hl : ∀ e p, fk e = some p → p.1.length = l) :
    TEok K (tCallD (spD K g) m l pm ta tk) (fun env => (fa env).bind fun p0 => (fk p0.2).bind fun p => (Γ n).bind fun g => callF g pm p.2 (p0.1 ++ p.1)) := by
  intro R G0 G H env σ tmp o env' Q S e q
  simp only [Option.bind_eq_some_iff] at e
  obtain ⟨⟨os1, e1⟩, h1, ⟨os2, e2⟩, h2, g', hg', e⟩ := e
  rw [hg] at hg'
  cases hg'
  refine ha _ _ _ _ _ _ _ _ _ _ S h1 fun vs G1 H1 l1 g1 S1 => ?_
  refine hk _ _ _ _ _ _ _ _ _ _ S1 h2 fun zs G2 H2 l2 g2 S2 => ?_
  refine ⟨by rw [← l1]; exact hm _ _ h1, by rw [← l2]; exact hl _ _ h2, ?_⟩
  have S3 : SR K R G0 G2 H2 e2 σ ((os1 ++ os2).zip (vs ++ zs) ++ tmp) := by
    rw [List.zip_append l1]
    refine S2.perm ?_
    rw [← List.append_assoc]
    exact List.Perm.append_right _ List.perm_append_comm
  exact call_data S3 (by rw [List.length_append, List.length_append, l1, l2]) e fun v G' H' g3 S4 => q v G' H' (g1.trans (g2.trans g3)) S4
end
end Pd

/-! targets, what loops walk, comprehensions -/
namespace Pd
open PySem PySem.Spec PyProof.Rows L2

/-! ### targets -/
def Wp (ix : List Nat) (σ σ' : L2.St) : Prop := σ'.length = σ.length ∧ ∀ own : List Nat, (∀ i ∈ ix, i ∈ own) → wipe σ' own = wipe σ own
theorem Wp.refl {ix : List Nat} {σ : L2.St} : Wp ix σ σ := ⟨rfl, fun _ _ => rfl⟩
theorem Wp.trans {ix iy : List Nat} {σ σ1 σ2 : L2.St} (a : Wp ix σ σ1) (b : Wp iy σ1 σ2) : Wp (ix ++ iy) σ σ2 :=
  ⟨b.1.trans a.1, fun own h => (b.2 own fun i hi => h i (List.mem_append_right _ hi)).trans (a.2 own fun i hi => h i (List.mem_append_left _ hi))⟩
theorem wipe_set {σ : L2.St} {i : Nat} {x : Option V} : ∀ {own : List Nat}, i ∈ own → wipe (σ.set i x) own = wipe σ own
  | [], h => by cases h
  | j :: own, h => by
    unfold wipe
    by_cases hi : i ∈ own
    · rw [wipe_set hi]
    · have e : i = j := by
        rcases List.mem_cons.mp h with z | z
        · exact z
        · exact absurd z hi
      subst e
      have c : ∀ (own : List Nat), i ∉ own → ∀ σ : L2.St, (wipe (σ.set i x) own).set i none = (wipe σ own).set i none := by
        intro own
        induction own with
        | nil =>
          intro _ σ
          show (σ.set i x).set i none = σ.set i none
          rw [List.set_set]
        | cons k own ih =>
          intro hk σ
          have h1 : i ≠ k := fun e => hk (by rw [e]; exact List.mem_cons_self)
          have h2 : i ∉ own := fun z => hk (List.mem_cons_of_mem _ z)
          show ((wipe (σ.set i x) own).set k none).set i none = ((wipe σ own).set k none).set i none
          rw [List.set_comm _ _ (Ne.symm h1), ih h2 σ, List.set_comm _ _ h1]
      exact c own hi σ
theorem Wp.set {σ : L2.St} {i : Nat} {x : Option V} : Wp [i] σ (σ.set i x) := ⟨List.length_set, fun own h => wipe_set (h i List.mem_cons_self)⟩

def TGok (K : PySem.W.Frag) (g : TG) (ix : List Nat) (f : PyData → EnvD → Option EnvD) : Prop :=
  ∀ (R : RR) (G0 G H : Hp) (env : EnvD) (σ : L2.St) (tmp : Tmp) (v : V) (d : PyData) (env' : EnvD) (Q : L2.St → Hp → Prop), SR K R G0 G H env σ tmp → NoSl tmp → Rp K G v d → f d env = some env' →
    (∀ σ' G' H', Same G G' → Wp ix σ σ' → SR K R G0 G' H' env' σ' tmp → Q σ' H') → g v σ H Q
def TGsok (K : PySem.W.Frag) (g : TGs) (ix : List Nat) (f : List PyData → EnvD → Option EnvD) : Prop :=
  ∀ (R : RR) (G0 G H : Hp) (env : EnvD) (σ : L2.St) (tmp : Tmp) (vs : List V) (ds : List PyData) (env' : EnvD) (Q : L2.St → Hp → Prop), SR K R G0 G H env σ tmp → NoSl tmp → RpAll K G vs ds → f ds env = some env' →
    (∀ σ' G' H', Same G G' → Wp ix σ σ' → SR K R G0 G' H' env' σ' tmp → Q σ' H') → g vs σ H Q
section
variable {K : PySem.W.Frag} {Γ : Tab}
theorem ok_tgName {i : Nat} : TGok K (gName i) [i] (fun d env => if i < env.length then some (env.set i (.va d)) else none) := by
  intro R G0 G H env σ tmp v d env' Q S hn r e q
  dsimp only at e
  split at e
  · rename_i hi
    cases e
    exact q _ G H (Same.refl _) Wp.set ((S.pushVa r).store hn hi fun j z => by cases z)
  · cases e
theorem ok_tgNil : TGsok K gNil [] (fun ds env => match ds with | [] => some env | _ => none) := by
  intro R G0 G H env σ tmp vs ds env' Q S hn r e q
  cases ds with
  | nil =>
    cases e
    cases r
    exact ⟨rfl, q σ G H (Same.refl _) Wp.refl S⟩
  | cons _ _ => cases e
theorem ok_tgCons {g : TG} {gs : TGs} {ix ixs : List Nat} {f : PyData → EnvD → Option EnvD} {fs : List PyData → EnvD → Option EnvD} (h : TGok K g ix f) (hs : TGsok K gs ixs fs) :
    TGsok K (gCons g gs) (ix ++ ixs) (fun ds env => match ds with | d :: ds => (f d env).bind fun e => fs ds e | [] => none) := by
  intro R G0 G H env σ tmp vs ds env' Q S hn r e q
  cases ds with
  | nil => cases e
  | cons d ds =>
    dsimp only at e
    rw [Option.bind_eq_some_iff] at e
    obtain ⟨e1, h1, h2⟩ := e
    cases r with
    | cons rv rr =>
      refine ⟨_, _, rfl, h _ _ _ _ _ _ _ _ _ _ _ S hn rv h1 fun σ1 G1 H1 g1 w1 S1 => ?_⟩
      exact hs _ _ _ _ _ _ _ _ _ _ _ S1 hn (rr.mono g1) h2 fun σ2 G2 H2 g2 w2 S2 => q σ2 G2 H2 (g1.trans g2) (w1.trans w2) S2
theorem ok_tgTup {gs : TGs} {ixs : List Nat} {n : Nat} {fs : List PyData → EnvD → Option EnvD} (hs : TGsok K gs ixs fs) (hn : ∀ ds e e', fs ds e = some e' → ds.length = n) :
    TGok K (gTup K n gs) ixs (fun d env => match d with | .tuple ds => fs ds env | _ => none) := by
  intro R G0 G H env σ tmp v d env' Q S hns r e q
  cases d with
  | tuple ds =>
    obtain ⟨a, xs, e1, ha, ra⟩ := r.tupI
    subst e1
    exact ⟨a, xs, rfl, SqT.of (S.gh _ _ ha), by rw [ra.len]; exact hn _ _ _ e, hs _ _ _ _ _ _ _ _ _ _ _ S hns ra e q⟩
  | _ => cases e
theorem isOwn_of {env : EnvD} {i : Nat} {R : RR} {G0 G H : Hp} {σ : L2.St} {tmp : Tmp} (S : SR K R G0 G H env σ tmp) (h : isOwn env i = true) : ∃ a, σ[i]? = some (some (.ref a)) := by
  unfold isOwn at h
  split at h
  · rename_i ds e
    obtain ⟨a, xs, e1, _⟩ := S.slot i _ e
    exact ⟨a, e1⟩
  · rename_i ds e
    obtain ⟨a, xs, e1, _⟩ := S.slot i _ e
    exact ⟨a, e1⟩
  · cases h
theorem ok_tgSub {i : Nat} {ti : TE} {fi : EnvD → Option (Opd × EnvD)} (hi : TEok K ti fi) : TGok K (gSub (tVar i) ti rSetL) [] (fun d env => if isOwn env i then (fi env).bind fun p => match p.1, p.2[i]? with
    | .va (.int k), some (.ow ds) => (L2.ixN ds.length k).bind fun j => some (p.2.set i (.ow (ds.set j d)))
    | .va (.int k), some (.io ds) => (L2.ixN ds.length k).bind fun j => some (p.2.set i (.io (ds.set j d)))
    | _, _ => none else none) := by
  intro R G0 G H env σ tmp v d env' Q S hns r e q
  dsimp only at e
  split at e
  · rename_i ho
    rw [Option.bind_eq_some_iff] at e
    obtain ⟨⟨o1, e1⟩, h1, e⟩ := e
    obtain ⟨a, ea⟩ := isOwn_of S ho
    refine ⟨.ref a, ea, hi _ _ _ _ _ _ _ _ _ _ S h1 fun w G1 H1 g1 S1 => ?_⟩
    have fin : ∀ (k : Int) (ds : List PyData) (c : List PyData → Cell) (j : Nat), (c = .ow ∨ c = .io) → o1 = .va (.int k) → e1[i]? = some (c ds) → ixN ds.length k = some j → env' = e1.set i (c (ds.set j d)) → rSetL (.ref a) w v H1 fun H3 => Q σ H3 := by
      intro k ds c j hc h2 h3 h4 h5
      subst h2
      subst h5
      have ew := Rp.intI (K := K) (G := G1) S1.top
      subst ew
      have hcell : ∃ b xs, σ[i]? = some (some (.ref b)) ∧ H1 b = some (.lst xs) ∧ RpAll K G1 xs ds := by
        have z := S1.slot i _ h3
        rcases hc with z1 | z1 <;> subst z1 <;> exact z
      obtain ⟨b, xs, eb, hb, rb⟩ := hcell
      rw [ea] at eb
      cases eb
      have hO : OwnS e1 σ i a := by
        rcases hc with z1 | z1 <;> subst z1
        · exact ⟨⟨ds, .inl h3⟩, ea⟩
        · exact ⟨⟨ds, .inr h3⟩, ea⟩
      refine ⟨a, xs, k, j, rfl, rfl, hb, by rw [rb.len]; exact h4, ?_⟩
      exact q σ G1 _ g1 Wp.refl (S1.pop.write hO (es := ds.set j d) (by rcases hc with z1 | z1 <;> subst z1 <;> first | exact .inl rfl | exact .inr ⟨rfl, _, h3⟩) (rb.set (r.mono g1) j) _ rfl)
    dsimp only at e
    split at e
    · rename_i k ds hk
      rw [Option.bind_eq_some_iff] at e
      obtain ⟨j, hj, e⟩ := e
      cases e
      exact fin _ _ .ow j (.inl rfl) rfl hk hj rfl
    · rename_i k ds hk
      rw [Option.bind_eq_some_iff] at e
      obtain ⟨j, hj, e⟩ := e
      cases e
      exact fin _ _ .io j (.inr rfl) rfl hk hj rfl
    · cases e
  · cases e
end

/-! ### what a loop walks -/
structure ItOk (K : PySem.W.Frag) (J : It) (ds : List PyData) (Gs : Hp) : Prop where
  go : ∀ i H, Same Gs H → i < ds.length → J.go i H
  stop : ∀ i H, Same Gs H → ds.length ≤ i → J.stop i H
  yld : ∀ i H x H' d, Same Gs H → ds[i]? = some d → J.yld i H x H' → (H' = H ∧ Rp K Gs x d) ∨ (∃ T xs es, x = .ref T ∧ H T = none ∧ H' = upd H T (.tup xs) ∧ d = .tuple es ∧ RpAll K Gs xs es)
def TIok (K : PySem.W.Frag) (w : TI) (f : EnvD → Option (List PyData × EnvD)) : Prop :=
  ∀ (R : RR) (G0 G H : Hp) (env : EnvD) (σ : L2.St) (tmp : Tmp) (ds : List PyData) (env' : EnvD) (Rk : It → Hp → Prop), SR K R G0 G H env σ tmp → f env = some (ds, env') →
    (∀ J G' H', Same G G' → SR K R G0 G' H' env' σ tmp → ItOk K J ds G' → Rk J H') → w σ H Rk
theorem pi_or {X : Cx} {tg it : Expr} {w1 w2 : TI} (h1 : PI X tg it w1) (h2 : PI X tg it w2) : PI X tg it (fun σ H R => w1 σ H R ∨ w2 σ H R) := by
  refine ⟨fun pins s σ H R I h => ?_⟩
  rcases h with h | h
  · exact h1.run pins s σ H R I h
  · exact h2.run pins s σ H R I h
section
variable {K : PySem.W.Frag}
theorem it_list {G : Hp} {a : Addr} {xs : List V} {ds : List PyData} (ha : G a = some (.lst xs)) (r : RpAll K G xs ds) : ItOk K (Itl K a) ds G where
  go := fun i H g hi => ⟨xs, xs[i]'(by rw [r.len]; exact hi), SqL.of (g _ _ ha), by simp⟩
  stop := fun i H g hi => ⟨xs, SqL.of (g _ _ ha), by rw [r.len]; exact hi⟩
  yld := fun i H x H' d g hd y => by
    obtain ⟨e, y⟩ := y
    obtain ⟨v, hv, rv⟩ := r.get hd
    have := y xs (SqL.of (g _ _ ha))
    rw [hv] at this
    cases this
    exact .inl ⟨e, rv⟩
theorem it_tup {G : Hp} {a : Addr} {xs : List V} {ds : List PyData} (ha : G a = some (.tup xs)) (r : RpAll K G xs ds) : ItOk K (Itt K a) ds G where
  go := fun i H g hi => ⟨xs, xs[i]'(by rw [r.len]; exact hi), SqT.of (g _ _ ha), by simp⟩
  stop := fun i H g hi => ⟨xs, SqT.of (g _ _ ha), by rw [r.len]; exact hi⟩
  yld := fun i H x H' d g hd y => by
    obtain ⟨e, y⟩ := y
    obtain ⟨v, hv, rv⟩ := r.get hd
    have := y xs (SqT.of (g _ _ ha))
    rw [hv] at this
    cases this
    exact .inl ⟨e, rv⟩
theorem it_range {lo : Int} {n : Nat} {G : Hp} : ItOk K (Itr lo n) (((List.range n).map fun (k : Nat) => lo + (k : Int)).map .int) G where
  go := fun i H g hi => by
    have z : i < n := by simpa using hi
    exact z
  stop := fun i H g hi => by
    have z : n ≤ i := by simpa using hi
    exact z
  yld := fun i H x H' d g hd y => by
    obtain ⟨e, y⟩ := y
    subst y
    rw [List.getElem?_map, List.getElem?_map] at hd
    cases z : (List.range n)[i]? with
    | none =>
      rw [z] at hd
      cases hd
    | some k =>
      rw [z] at hd
      have hk : k = i := by
        obtain ⟨h1, h2⟩ := List.getElem?_eq_some_iff.mp z
        simp at h2
        exact h2.symm
      subst hk
      cases hd
      exact .inl ⟨e, .int _⟩
theorem it_rangeD {lo : Int} {n : Nat} {G : Hp} : ItOk K (Itc lo (-1) n) (((List.range n).map fun (k : Nat) => lo - (k : Int)).map .int) G where
  go := fun i H g hi => by
    have z : i < n := by simpa using hi
    exact z
  stop := fun i H g hi => by
    have z : n ≤ i := by simpa using hi
    exact z
  yld := fun i H x H' d g hd y => by
    obtain ⟨e, y⟩ := y
    subst y
    rw [List.getElem?_map, List.getElem?_map] at hd
    cases z : (List.range n)[i]? with
    | none =>
      rw [z] at hd
      cases hd
    | some k =>
      rw [z] at hd
      have hk : k = i := by
        obtain ⟨h1, h2⟩ := List.getElem?_eq_some_iff.mp z
        simp at h2
        exact h2.symm
      subst hk
      cases hd
      refine .inl ⟨e, ?_⟩
      have : lo + (k : Int) * (-1) = lo - (k : Int) := by omega
      rw [this]
      exact .int _
theorem enumF_get : ∀ (ds : List PyData) (k i : Nat), (enumF k ds)[i]? = (ds[i]?).map fun d => .tuple [.int ((k + i : Nat) : Int), d]
  | [], k, i => by simp [enumF]
  | d :: ds, k, 0 => by simp [enumF]
  | d :: ds, k, i + 1 => by
    have := enumF_get ds (k + 1) i
    show (enumF (k + 1) ds)[i]? = _
    rw [this]
    have e : k + 1 + i = k + (i + 1) := by omega
    rw [e]
    rfl
theorem enumF_len : ∀ (ds : List PyData) (k : Nat), (enumF k ds).length = ds.length
  | [], _ => rfl
  | d :: ds, k => by
    show (enumF (k + 1) ds).length + 1 = _
    rw [enumF_len ds (k + 1)]
    rfl
theorem it_enum {G : Hp} {a : Addr} {xs : List V} {ds : List PyData} (ha : G a = some (.lst xs)) (r : RpAll K G xs ds) : ItOk K (Ite K a) (enumF 0 ds) G where
  go := fun i H g hi => by
    rw [enumF_len] at hi
    exact ⟨xs, xs[i]'(by rw [r.len]; exact hi), SqL.of (g _ _ ha), by simp⟩
  stop := fun i H g hi => by
    rw [enumF_len] at hi
    exact ⟨xs, SqL.of (g _ _ ha), by rw [r.len]; exact hi⟩
  yld := fun i H x H' d g hd y => by
    obtain ⟨T, u, e1, e2, e3, y⟩ := y
    rw [enumF_get] at hd
    cases z : ds[i]? with
    | none =>
      rw [z] at hd
      cases hd
    | some d' =>
      rw [z] at hd
      cases hd
      obtain ⟨v, hv, rv⟩ := r.get z
      have := y xs (SqL.of (g _ _ ha))
      rw [hv] at this
      cases this
      refine .inr ⟨T, _, _, e1, e2, e3, rfl, ?_⟩
      rw [Nat.zero_add]
      exact .cons (.int _) (.cons rv .nil)
theorem zipF_get : ∀ (xs ys : List PyData) (i : Nat), (zipF xs ys)[i]? = (xs[i]?).bind fun x => (ys[i]?).map fun y => .tuple [x, y]
  | [], ys, i => by simp [zipF]
  | x :: xs, [], i => by simp [zipF]
  | x :: xs, y :: ys, 0 => by simp [zipF]
  | x :: xs, y :: ys, i + 1 => by
    show (zipF xs ys)[i]? = _
    rw [zipF_get xs ys i]
    rfl
theorem zipF_len : ∀ (xs ys : List PyData), (zipF xs ys).length = min xs.length ys.length
  | [], ys => by simp [zipF]
  | x :: xs, [] => by simp [zipF]
  | x :: xs, y :: ys => by
    show (zipF xs ys).length + 1 = _
    rw [zipF_len xs ys, List.length_cons, List.length_cons]
    omega
theorem it_zip {G : Hp} {a b : Addr} {xs ys : List V} {ds es : List PyData} (ha : G a = some (.lst xs)) (hb : G b = some (.lst ys)) (r : RpAll K G xs ds) (r2 : RpAll K G ys es) : ItOk K (Itz K a b) (zipF ds es) G where
  go := fun i H g hi => by
    rw [zipF_len] at hi
    exact ⟨xs, ys, xs[i]'(by rw [r.len]; omega), ys[i]'(by rw [r2.len]; omega), SqL.of (g _ _ ha), SqL.of (g _ _ hb), by simp, by simp⟩
  stop := fun i H g hi => by
    rw [zipF_len] at hi
    exact ⟨xs, ys, SqL.of (g _ _ ha), SqL.of (g _ _ hb), by rw [r.len, r2.len]; omega⟩
  yld := fun i H x H' d g hd y => by
    obtain ⟨T, u, u2, e1, e2, e3, y, y2⟩ := y
    rw [zipF_get, Option.bind_eq_some_iff] at hd
    obtain ⟨d1, h1, hd⟩ := hd
    rw [Option.map_eq_some_iff] at hd
    obtain ⟨d2, h2, hd⟩ := hd
    subst hd
    obtain ⟨v, hv, rv⟩ := r.get h1
    obtain ⟨v2, hv2, rv2⟩ := r2.get h2
    have z := y xs (SqL.of (g _ _ ha))
    rw [hv] at z
    cases z
    have z := y2 ys (SqL.of (g _ _ hb))
    rw [hv2] at z
    cases z
    exact .inr ⟨T, _, _, e1, e2, e3, rfl, .cons rv (.cons rv2 .nil)⟩
theorem it_zipT {G : Hp} {a b : Addr} {xs ys : List V} {ds es : List PyData} (ha : G a = some (.tup xs)) (hb : G b = some (.tup ys)) (r : RpAll K G xs ds) (r2 : RpAll K G ys es) : ItOk K (RZ.ItzT K a b) (zipF ds es) G where
  go := fun i H g hi => by
    rw [zipF_len] at hi
    exact ⟨xs, ys, xs[i]'(by rw [r.len]; omega), ys[i]'(by rw [r2.len]; omega), SqT.of (g _ _ ha), SqT.of (g _ _ hb), by simp, by simp⟩
  stop := fun i H g hi => by
    rw [zipF_len] at hi
    exact ⟨xs, ys, SqT.of (g _ _ ha), SqT.of (g _ _ hb), by rw [r.len, r2.len]; omega⟩
  yld := fun i H x H' d g hd y => by
    obtain ⟨T, u, u2, e1, e2, e3, y, y2⟩ := y
    rw [zipF_get, Option.bind_eq_some_iff] at hd
    obtain ⟨d1, h1, hd⟩ := hd
    rw [Option.map_eq_some_iff] at hd
    obtain ⟨d2, h2, hd⟩ := hd
    subst hd
    obtain ⟨v, hv, rv⟩ := r.get h1
    obtain ⟨v2, hv2, rv2⟩ := r2.get h2
    have z := y xs (SqT.of (g _ _ ha))
    rw [hv] at z
    cases z
    have z := y2 ys (SqT.of (g _ _ hb))
    rw [hv2] at z
    cases z
    exact .inr ⟨T, _, _, e1, e2, e3, rfl, .cons rv (.cons rv2 .nil)⟩

/-- a value: a list or a tuple -/
theorem ok_srcEx {ta : TE} {fa : EnvD → Option (Opd × EnvD)} (ha : TEok K ta fa) : TIok K (fun σ H R => iList K ta σ H R ∨ iTup K ta σ H R) (fun env => (fa env).bind fun p => (Pd.frz p.2 p.1).bind fun q => (Pd.items q.1).bind fun ds => some (ds, q.2)) := by
  intro R G0 G H env σ tmp ds env' Rk S e q
  simp only [Option.bind_eq_some_iff] at e
  obtain ⟨⟨o1, e1⟩, h1, ⟨d, e2⟩, h2, ds', h3, e⟩ := e
  cases e
  cases d with
  | list es =>
    cases h3
    refine .inl (ha _ _ _ _ _ _ _ _ _ _ S h1 fun v G1 H1 g1 S1 => ?_)
    obtain ⟨G2, g2, S2, r⟩ := S1.frz h2
    obtain ⟨a, xs, ev, hx, rx⟩ := r.listI
    exact ⟨a, ev, ⟨xs, SqL.of (S2.gh _ _ hx)⟩, q _ G2 H1 (g1.trans g2) S2 (it_list hx rx)⟩
  | tuple es =>
    cases h3
    refine .inr (ha _ _ _ _ _ _ _ _ _ _ S h1 fun v G1 H1 g1 S1 => ?_)
    obtain ⟨G2, g2, S2, r⟩ := S1.frz h2
    obtain ⟨a, xs, ev, hx, rx⟩ := r.tupI
    exact ⟨a, ev, ⟨xs, SqT.of (S2.gh _ _ hx)⟩, q _ G2 H1 (g1.trans g2) S2 (it_tup hx rx)⟩
  | _ => cases h3
theorem ok_srcEnum {ta : TE} {fa : EnvD → Option (Opd × EnvD)} (ha : TEok K ta fa) : TIok K (iEnum K (tCons ta tNil)) (fun env => (fa env).bind fun p => (Pd.frz p.2 p.1).bind fun q => match q.1 with
    | .list ds => some (enumF 0 ds, q.2)
    | _ => none) := by
  intro R G0 G H env σ tmp ds env' Rk S e q
  simp only [Option.bind_eq_some_iff] at e
  obtain ⟨⟨o1, e1⟩, h1, ⟨d, e2⟩, h2, e⟩ := e
  dsimp only at e
  split at e
  · cases e
    refine ha _ _ _ _ _ _ _ _ _ _ S h1 fun v G1 H1 g1 S1 => ?_
    obtain ⟨G2, g2, S2, r⟩ := S1.frz h2
    obtain ⟨a, xs, ev, hx, rx⟩ := r.listI
    subst ev
    exact ⟨a, xs, rfl, SqL.of (S2.gh _ _ hx), q _ G2 H1 (g1.trans g2) S2 (it_enum hx rx)⟩
  · cases e
theorem ok_srcZip {ta tb : TE} {fa fb : EnvD → Option (Opd × EnvD)} (ha : TEok K ta fa) (hb : TEok K tb fb) : TIok K (RZ.iZipA K (tCons ta (tCons tb tNil))) (fun env => (fa env).bind fun p => (fb p.2).bind fun q => (Pd.frzs q.2 [p.1, q.1]).bind fun w => match w.1 with
    | [x, y] => (zipD x y).bind fun ds => some (ds, w.2)
    | _ => none) := by
  intro R G0 G H env σ tmp ds env' Rk S e q
  simp only [Option.bind_eq_some_iff] at e
  obtain ⟨⟨o1, e1⟩, h1, ⟨o2, e2⟩, h2, ⟨ws, e3⟩, h3, e⟩ := e
  refine ha _ _ _ _ _ _ _ _ _ _ S h1 fun v G1 H1 g1 S1 => ?_
  refine hb _ _ _ _ _ _ _ _ _ _ S1 h2 fun w G2 H2 g2 S2 => ?_
  have S3 : SR K R G0 G2 H2 e2 σ ([o1, o2].zip [v, w] ++ tmp) := S2.perm (List.Perm.swap _ _ _)
  obtain ⟨G3, g3, S4, r⟩ := frzs_ok _ _ _ _ _ S3 rfl h3
  have g := g1.trans (g2.trans g3)
  dsimp only at e
  split at e
  · rename_i x y
    rw [Option.bind_eq_some_iff] at e
    obtain ⟨zs, hz, e⟩ := e
    cases e
    cases r with
    | cons r1 r =>
      cases r with
      | cons r2 r =>
        unfold zipD at hz
        split at hz
        · cases hz
          obtain ⟨a, xs, ev, hx, rx⟩ := r1.listI
          obtain ⟨b, ys, ew, hy, ry⟩ := r2.listI
          subst ev
          subst ew
          exact ⟨a, b, xs, ys, rfl, .inl ⟨SqL.of (S4.gh _ _ hx), SqL.of (S4.gh _ _ hy), q _ G3 H2 g S4 (it_zip hx hy rx ry)⟩⟩
        · cases hz
          obtain ⟨a, xs, ev, hx, rx⟩ := r1.tupI
          obtain ⟨b, ys, ew, hy, ry⟩ := r2.tupI
          subst ev
          subst ew
          exact ⟨a, b, xs, ys, rfl, .inr ⟨SqT.of (S4.gh _ _ hx), SqT.of (S4.gh _ _ hy), q _ G3 H2 g S4 (it_zipT hx hy rx ry)⟩⟩
        · cases hz
  · cases e
def iRngD (n : Nat) (ta : TA) : TI := match n with
  | 1 => iRng1 ta
  | 2 => iRng2 ta
  | 3 => iRng3 ta
  | _ => fun _ _ _ => False
theorem ok_srcRng {n : Nat} {ta : TA} {fa : EnvD → Option (List Opd × EnvD)} (ha : TAok K ta fa) (hn : ∀ e p, fa e = some p → p.1.length = n) : TIok K (iRngD n ta) (fun env => (fa env).bind fun p => (ress p.2 p.1).bind fun ds => (ints3 ds).bind fun ns => some (ns.map .int, p.2)) := by
  intro R G0 G H env σ tmp ds env' Rk S e q
  simp only [Option.bind_eq_some_iff] at e
  obtain ⟨⟨os, e1⟩, h1, ds', h2, ns, h3, e⟩ := e
  cases e
  have hl := hn _ _ h1
  have len : ∀ {G1 H1 : Hp} {vs : List V}, RpAll K H1 vs ds' → os.length = vs.length → ds'.length = n := fun r l => by
    rw [← r.len, ← l]
    exact hl
  unfold ints3 at h3
  split at h3
  · rename_i b
    split at h3
    · rename_i hb
      cases h3
      have en : n = 1 := by
        rw [← hl]
        cases os with
        | nil => cases h2
        | cons o os =>
          unfold ress at h2
          simp only [Option.bind_eq_some_iff] at h2
          obtain ⟨_, _, _, h4, e⟩ := h2
          cases e
          cases os with
          | nil => rfl
          | cons o2 os =>
            unfold ress at h4
            simp only [Option.bind_eq_some_iff] at h4
            obtain ⟨_, _, _, _, e⟩ := h4
            cases e
      subst en
      refine ha _ _ _ _ _ _ _ _ _ _ S h1 fun vs G1 H1 l1 g1 S1 => ?_
      have r := ress_rp _ _ _ S1 l1 h2
      cases r with
      | cons r1 r =>
        cases r
        have ev := r1.intI
        subst ev
        refine ⟨b, rfl, by omega, by omega, q _ G1 H1 g1 (zip_drop S1) ?_⟩
        have := it_range (K := K) (lo := 0) (n := b.toNat) (G := G1)
        simpa using this
    · cases h3
  · rename_i a b
    split at h3
    · rename_i hb
      cases h3
      refine ?_
      have h2' := h2
      have en : n = 2 := by
        rw [← hl]
        rcases os with _ | ⟨o, _ | ⟨o2, _ | ⟨o3, os⟩⟩⟩ <;> (unfold ress at h2; simp only [Option.bind_eq_some_iff, Option.some.injEq, reduceCtorEq] at h2)
        · obtain ⟨_, _, _, h4, e⟩ := h2
          unfold ress at h4
          cases h4
          cases e
        · rfl
        · obtain ⟨_, _, _, h4, e⟩ := h2
          cases e
          unfold ress at h4
          simp only [Option.bind_eq_some_iff] at h4
          obtain ⟨_, _, _, h5, e⟩ := h4
          cases e
          unfold ress at h5
          simp only [Option.bind_eq_some_iff] at h5
          obtain ⟨_, _, _, _, e⟩ := h5
          cases e
      subst en
      refine ha _ _ _ _ _ _ _ _ _ _ S h1 fun vs G1 H1 l1 g1 S1 => ?_
      have r := ress_rp _ _ _ S1 l1 h2'
      cases r with
      | cons r1 r =>
        cases r with
        | cons r2 r =>
          cases r
          have ev := r1.intI
          subst ev
          have ev := r2.intI
          subst ev
          exact ⟨a, b, rfl, ⟨by omega, by omega, by omega, by omega⟩, q _ G1 H1 g1 (zip_drop S1) it_range⟩
    · cases h3
  · rename_i a b c
    split at h3
    · rename_i hb
      cases h3
      have h2' := h2
      have en : n = 3 := by
        rw [← hl]
        rcases os with _ | ⟨o, _ | ⟨o2, _ | ⟨o3, _ | ⟨o4, os⟩⟩⟩⟩ <;> (unfold ress at h2; simp only [Option.bind_eq_some_iff, Option.some.injEq, reduceCtorEq] at h2)
        · obtain ⟨_, _, _, h4, e⟩ := h2
          unfold ress at h4
          cases h4
          cases e
        · obtain ⟨_, _, _, h4, e⟩ := h2
          cases e
          unfold ress at h4
          simp only [Option.bind_eq_some_iff] at h4
          obtain ⟨_, _, _, h5, e⟩ := h4
          unfold ress at h5
          cases h5
          cases e
        · rfl
        · obtain ⟨_, _, _, h4, e⟩ := h2
          cases e
          unfold ress at h4
          simp only [Option.bind_eq_some_iff] at h4
          obtain ⟨_, _, _, h5, e⟩ := h4
          cases e
          unfold ress at h5
          simp only [Option.bind_eq_some_iff] at h5
          obtain ⟨_, _, _, h6, e⟩ := h5
          cases e
          unfold ress at h6
          simp only [Option.bind_eq_some_iff] at h6
          obtain ⟨_, _, _, _, e⟩ := h6
          cases e
      subst en
      refine ha _ _ _ _ _ _ _ _ _ _ S h1 fun vs G1 H1 l1 g1 S1 => ?_
      have r := ress_rp _ _ _ S1 l1 h2'
      cases r with
      | cons r1 r =>
        cases r with
        | cons r2 r =>
          cases r with
          | cons r3 r =>
            cases r
            have ev := r1.intI
            subst ev
            have ev := r2.intI
            subst ev
            have ev := r3.intI
            subst ev
            obtain ⟨rfl, hb⟩ := hb
            exact ⟨a, b, -1, _, rfl, RgC.neg (by omega) (by omega) (by omega) (by omega), q _ G1 H1 g1 (zip_drop S1) it_rangeD⟩
    · cases h3
  · cases h3
end
end Pd

/-! comprehensions; methods that change a list of one's own -/
namespace Pd
open PySem PySem.Spec PyProof.Rows L2

def isSl : Opd → Bool
  | .sl _ => true
  | _ => false
def unsl (t : Tmp) : Tmp := t.filter fun p => !isSl p.1
theorem unsl_no (t : Tmp) : NoSl (unsl t) := by
  intro p hp i e
  have := (List.mem_filter.mp hp).2
  rw [e] at this
  cases this
theorem ownT_unsl (t : Tmp) : ownT (unsl t) = ownT t := by
  induction t with
  | nil => rfl
  | cons p t ih =>
    obtain ⟨o, v⟩ := p
    cases o with
    | va d =>
      show ownT ((.va d, v) :: unsl t) = _
      rw [ownT_va, ownT_va, ih]
    | ow ds =>
      show ownT ((.ow ds, v) :: unsl t) = _
      rw [ownT_eq, ownT_eq] at *
      rw [List.filterMap_cons, List.filterMap_cons, ih]
    | sl i =>
      show ownT (unsl t) = _
      rw [ownT_sl, ih]

theorem wipe_comm {σ : L2.St} {i : Nat} {x : Option V} : ∀ {own : List Nat}, i ∉ own → wipe (σ.set i x) own = (wipe σ own).set i x
  | [], _ => rfl
  | k :: own, h => by
    have h1 : k ≠ i := fun e => h (by rw [e]; exact List.mem_cons_self)
    show (wipe (σ.set i x) own).set k none = ((wipe σ own).set k none).set i x
    rw [wipe_comm (fun z => h (List.mem_cons_of_mem _ z)), List.set_comm _ _ (Ne.symm h1)]
theorem wipe_get : ∀ {own : List Nat} {σ : L2.St} {i : Nat}, (wipe σ own)[i]? = if i ∈ own then (σ[i]?).map (fun _ => none) else σ[i]?
  | [], σ, i => by simp [wipe]
  | k :: own, σ, i => by
    show ((wipe σ own).set k none)[i]? = _
    by_cases hk : k = i
    · subst hk
      rw [if_pos List.mem_cons_self]
      by_cases hl : k < σ.length
      · rw [List.getElem?_set_self (by rw [wipe_length]; exact hl), List.getElem?_eq_getElem hl]
        rfl
      · rw [List.getElem?_eq_none (by rw [List.length_set, wipe_length]; omega), List.getElem?_eq_none (by omega)]
        rfl
    · rw [List.getElem?_set_ne hk, wipe_get]
      by_cases hi : i ∈ own
      · rw [if_pos hi, if_pos (List.mem_cons_of_mem _ hi)]
      · rw [if_neg hi, if_neg (fun z => (List.mem_cons.mp z).elim (fun e => hk e.symm) hi)]
theorem wipe_idem {σ : L2.St} {own : List Nat} : wipe (wipe σ own) own = wipe σ own := by
  apply List.ext_getElem?
  intro i
  rw [wipe_get, wipe_get]
  by_cases hi : i ∈ own
  · rw [if_pos hi, if_pos hi]
    cases σ[i]? <;> rfl
  · rw [if_neg hi, if_neg hi]
theorem wipe1_len {own : List Nat} {env : EnvD} : (wipe1 env own).length = env.length := by
  induction own with
  | nil => rfl
  | cons i own ih =>
    show ((wipe1 env own).set i .no).length = _
    rw [List.length_set, ih]

section
variable {K : PySem.W.Frag} {R : RR} {G0 G G' H H' : Hp} {env : EnvD} {σ : L2.St} {tmp : Tmp} {p : Addr} {v : V} {d : PyData} {ds : List PyData} {xs : List V}

theorem SR.unsl (S : SR K R G0 G H env σ tmp) : SR K R G0 G H env σ (Pd.unsl tmp) := S.sub List.filter_sublist
theorem SR.resl {t' : Tmp} (S : SR K R G0 G H env σ (t' ++ Pd.unsl tmp)) (h : ∀ q ∈ tmp, ∀ i, q.1 = .sl i → σ[i]? = some (some q.2)) : SR K R G0 G H env σ (t' ++ tmp) := by
  have e : ownT (t' ++ Pd.unsl tmp) = ownT (t' ++ tmp) := by
    rw [ownT_eq, ownT_eq, List.filterMap_append, List.filterMap_append, ← ownT_eq, ← ownT_eq (Pd.unsl tmp), ← ownT_eq tmp, ownT_unsl]
  refine ⟨S.gh, S.rh, S.g0, S.gr, S.len, S.slot, S.free, S.apart, fun q hq => ?_, by rw [← e]; exact S.freeT, by rw [← e]; exact S.nd, by rw [← e]; exact S.cross, S.iod⟩
  rcases List.mem_append.mp hq with hq | hq
  · exact S.tm q (List.mem_append_left _ hq)
  · by_cases hs : isSl q.1 = true
    · obtain ⟨o, w⟩ := q
      cases o with
      | sl i => exact h _ hq i rfl
      | _ => cases hs
    · refine S.tm q (List.mem_append_right _ (List.mem_filter.mpr ⟨hq, ?_⟩))
      cases z : isSl q.1 with
      | true => exact absurd z hs
      | false => rfl
theorem SR.wipe1 {i : Nat} (S : SR K R G0 G H env σ tmp) (hn : NoSl tmp) : SR K R G0 G H (env.set i .no) (σ.set i none) tmp := by
  have w : ∀ j b, OwnS (env.set i .no) (σ.set i none) j b → OwnS env σ j b := fun j b ⟨⟨es, q⟩, q2⟩ => by
    by_cases hj : j = i
    · subst hj
      rcases q with q | q <;> rcases getElem?_set_cases q with ⟨_, z, _⟩ | ⟨hj, z⟩
      · cases z
      · exact absurd rfl hj
      · cases z
      · exact absurd rfl hj
    · rw [List.getElem?_set_ne (Ne.symm hj)] at q q2
      exact ⟨⟨es, q⟩, q2⟩
  refine ⟨S.gh, S.rh, S.g0, S.gr, by rw [List.length_set, List.length_set]; exact S.len, fun j c q => ?_, fun j b q => S.free j b (w j b q), fun j k b q1 q2 => S.apart j k b (w j b q1) (w k b q2), fun q hq => ?_, S.freeT, S.nd, fun j b q => S.cross j b (w j b q), iod_set S.iod fun _ z => nomatch z⟩
  · rcases getElem?_set_cases q with ⟨_, z, _⟩ | ⟨hj, z⟩
    · subst z
      trivial
    · rw [List.getElem?_set_ne (Ne.symm hj)]
      exact S.slot j c z
  · have h1 := S.tm q hq
    obtain ⟨oq, vq⟩ := q
    cases oq with
    | va d => exact h1
    | ow es => exact h1
    | sl k => exact absurd rfl (hn _ hq k)
theorem SR.wipe {own : List Nat} (S : SR K R G0 G H env σ tmp) (hn : NoSl tmp) : SR K R G0 G H (Pd.wipe1 env own) (L2.wipe σ own) tmp := by
  induction own with
  | nil => exact S
  | cons i own ih => exact ih.wipe1 hn
theorem back_get {old : EnvD} : ∀ {own : List Nat} {env env' : EnvD}, back old own env = some env' → env'.length = env.length ∧ ∀ j, (j ∉ own → env'[j]? = env[j]?) ∧ (j ∈ own → env'[j]? = old[j]? ∨ env'[j]? = none) ∧ (j ∈ own → old[j]? = some .no ∨ ∃ d, old[j]? = some (.va d))
  | [], env, env', e => by
    cases e
    exact ⟨rfl, fun j => ⟨fun _ => rfl, fun z => absurd z List.not_mem_nil, fun z => absurd z List.not_mem_nil⟩⟩
  | i :: own, env, env', e => by
    unfold back at e
    rw [Option.bind_eq_some_iff] at e
    obtain ⟨e1, h1, e⟩ := e
    obtain ⟨l1, q1⟩ := back_get h1
    have main : ∀ c, old[i]? = some c → (c = .no ∨ ∃ d, c = .va d) → env' = e1.set i c → env'.length = env.length ∧ ∀ j, (j ∉ i :: own → env'[j]? = env[j]?) ∧ (j ∈ i :: own → env'[j]? = old[j]? ∨ env'[j]? = none) ∧ (j ∈ i :: own → old[j]? = some .no ∨ ∃ d, old[j]? = some (.va d)) := by
      intro c hc hk he
      subst he
      refine ⟨by rw [List.length_set]; exact l1, fun j => ?_⟩
      by_cases hj : j = i
      · subst hj
        refine ⟨fun z => absurd List.mem_cons_self z, fun _ => ?_, fun _ => ?_⟩
        · by_cases hl : j < e1.length
          · rw [List.getElem?_set_self hl, hc]
            exact .inl rfl
          · exact .inr (List.getElem?_eq_none (by rw [List.length_set]; omega))
        · rw [hc]
          rcases hk with z | ⟨d, z⟩
          · exact .inl (by rw [z])
          · exact .inr ⟨d, by rw [z]⟩
      · rw [List.getElem?_set_ne (Ne.symm hj)]
        exact ⟨fun z => (q1 j).1 fun y => z (List.mem_cons_of_mem _ y), fun z => (q1 j).2.1 ((List.mem_cons.mp z).resolve_left hj), fun z => (q1 j).2.2 ((List.mem_cons.mp z).resolve_left hj)⟩
    split at e
    · rename_i d hd
      cases e
      exact main _ hd (.inr ⟨d, rfl⟩) rfl
    · rename_i hd
      cases e
      exact main _ hd (.inl rfl) rfl
    · cases e
theorem SR.unwipe {G1 H1 : Hp} {env1 env3 : EnvD} {own : List Nat} {t1 : Tmp} (S : SR K R G0 G H env (L2.wipe σ own) tmp) (S1 : SR K R G0 G1 H1 env1 σ t1) (g : Same G1 G) (hn : NoSl tmp) (hb : back env1 own env = some env3) : SR K R G0 G H env3 σ tmp := by
  obtain ⟨hl, hq⟩ := back_get hb
  have out : ∀ j, j ∉ own → env3[j]? = env[j]? ∧ (L2.wipe σ own)[j]? = σ[j]? := fun j hj => ⟨(hq j).1 hj, by rw [wipe_get, if_neg hj]⟩
  have w : ∀ j b, OwnS env3 σ j b → OwnS env (L2.wipe σ own) j b := fun j b ⟨⟨es, q⟩, q2⟩ => by
    by_cases hj : j ∈ own
    · exfalso
      rcases (hq j).2.1 hj with z | z
      · rw [z] at q
        rcases (hq j).2.2 hj with y | ⟨d, y⟩ <;> (rw [y] at q; rcases q with q | q <;> cases q)
      · rw [z] at q
        rcases q with q | q <;> cases q
    · obtain ⟨a1, a2⟩ := out j hj
      rw [a1] at q
      exact ⟨⟨es, q⟩, by rw [a2]; exact q2⟩
  refine ⟨S.gh, S.rh, S.g0, S.gr, by rw [hl, S.len, wipe_length], fun j c q => ?_, fun j b q => S.free j b (w j b q), fun j k b q1 q2 => S.apart j k b (w j b q1) (w k b q2), fun q hq => ?_, S.freeT, S.nd, fun j b q => S.cross j b (w j b q), fun j ds' q => ?_⟩
  · by_cases hj : j ∈ own
    · rcases (hq j).2.1 hj with z | z
      · rw [z] at q
        rcases (hq j).2.2 hj with y | ⟨d, y⟩
        · rw [y] at q
          cases q
          trivial
        · rw [y] at q
          cases q
          obtain ⟨u, e1, r⟩ := S1.slot j _ y
          exact ⟨u, e1, r.mono g⟩
      · rw [z] at q
        cases q
    · obtain ⟨a1, a2⟩ := out j hj
      rw [a1] at q
      have := S.slot j c q
      rw [a2] at this
      exact this
  · have h1 := S.tm q hq
    obtain ⟨oq, vq⟩ := q
    cases oq with
    | va d => exact h1
    | ow es => exact h1
    | sl k => exact absurd rfl (hn _ hq k)
  · by_cases hj : j ∈ own
    · rcases (hq j).2.1 hj with z | z
      · rw [z] at q
        rcases (hq j).2.2 hj with y | ⟨d, y⟩ <;> (rw [y] at q; cases q)
      · rw [z] at q
        cases q
    · obtain ⟨a1, a2⟩ := out j hj
      rw [a1] at q
      obtain ⟨a, e1, e2⟩ := S.iod j ds' q
      exact ⟨a, e1, by rw [← a2]; exact e2⟩
/-- what is on its way is written -/
theorem SR.writeT {D : Addr} {ys : List V} {es : List PyData} (S : SR K R G0 G H env σ ((.ow ds, .ref D) :: tmp)) (r : RpAll K G ys es) : SR K R G0 G (upd H D (.lst ys)) env σ ((.ow es, .ref D) :: tmp) := by
  have f := S.freeT D (by rw [ownT_ow]; exact List.mem_cons_self)
  have nd := S.nd
  rw [ownT_ow] at nd
  have nd := List.nodup_cons.mp nd
  have T := S.pop
  have off : ∀ b o, b ≠ D → H b = some o → upd H D (.lst ys) b = some o := fun b o n z => by
    rw [upd_ne n]
    exact z
  have eo : ∀ es' : List PyData, ownT ((Opd.ow es', V.ref D) :: tmp) = D :: ownT tmp := fun _ => rfl
  refine ⟨fun b o z => off b o (fun q => ?_) (S.gh b o z), fun b o z => off b o (fun q => ?_) (S.rh b o z), S.g0, S.gr, S.len, fun j k q => ?_, S.free, S.apart, fun q hq => ?_, by rw [eo]; have z := S.freeT; rw [eo] at z; exact z, by rw [eo]; have z := S.nd; rw [eo] at z; exact z, by rw [eo]; have z := S.cross; rw [eo] at z; exact z, S.iod⟩
  · rw [q, f.1] at z
    cases z
  · rw [q, f.2] at z
    cases z
  · exact (S.slot j k q).keep (Same.refl _) fun b us hb e1 e2 => off b _ (fun w => by
      obtain ⟨es', hb⟩ := hb
      refine S.cross j D ⟨⟨es', ?_⟩, by rw [← w]; exact e1⟩ (by rw [ownT_ow]; exact List.mem_cons_self)
      rcases hb with hb | hb
      · exact .inl (hb ▸ q)
      · exact .inr (hb ▸ q)) e2
  · rcases List.mem_cons.mp hq with z | z
    · subst z
      exact ⟨D, ys, rfl, upd_same, r⟩
    · refine (T.tm q z).keep (Same.refl _) fun b us hb e1 e2 => off b _ (fun w => ?_) e2
      obtain ⟨es', hb⟩ := hb
      obtain ⟨o, w'⟩ := q
      have hb : o = .ow es' := hb
      have e1 : w' = .ref b := e1
      subst hb
      subst e1
      subst w
      refine nd.1 ?_
      have mem_own : ∀ {t : Tmp}, (Opd.ow es', V.ref b) ∈ t → b ∈ ownT t := by
        intro t
        induction t with
        | nil => intro z; cases z
        | cons q t ih =>
          intro z
          rcases List.mem_cons.mp z with z | z
          · subst z
            exact List.mem_cons_self
          · exact ownT_sub b (ih z)
      exact mem_own z

theorem Same.up {H1 H2 : Hp} (a : Same G H1) (b : Same H1 H2) : Same G H2 := a.trans b
/-- an item comes -/
theorem SR.yld {J : It} {Gs : Hp} {i : Nat} {x : V} {d : PyData} (S : SR K R G0 G H env σ tmp) (g : Same Gs G) (ok : ItOk K J ds Gs) (hd : ds[i]? = some d) (y : J.yld i H x H') : ∃ G', Same G G' ∧ SR K R G0 G' H' env σ tmp ∧ Rp K G' x d := by
  rcases ok.yld i H x H' d (g.trans S.gh) hd y with ⟨e, r⟩ | ⟨T, xs, es, e1, e2, e3, e4, r⟩
  · subst e
    exact ⟨G, Same.refl _, S, r.mono g⟩
  · subst e1
    subst e3
    subst e4
    obtain ⟨S', g'⟩ := S.newT e2 (r.mono g)
    exact ⟨_, g', S'.pop, S'.top⟩

theorem ok_lc {wi : TI} {g : TG} {tt : TT} {te : TE} {ix own : List Nat} {fs : EnvD → Option (List PyData × EnvD)} {ft : PyData → EnvD → Option EnvD} {fc : EnvD → Option (Bool × EnvD)} {fe : EnvD → Option (Opd × EnvD)}
    (hs : TIok K wi fs) (hg : TGok K g ix ft) (hix : ∀ i ∈ ix, i ∈ own) (ht : TTok K tt fc) (he : TEok K te fe) :
    TEok K (tLc wi g tt te own) (fun env => (fs env).bind fun p =>
      if p.1.length < 16777216 then
        (compL ft fc (fun e => (fe e).bind fun r => Pd.frz r.2 r.1) own p.1 (Pd.wipe1 p.2 own)).bind fun q => (back p.2 own q.2).bind fun e => some (.ow q.1, e)
      else none) := by
  intro R G0 G H env σ tmp o env' Q S e q
  rw [Option.bind_eq_some_iff] at e
  obtain ⟨⟨items, env1⟩, h1, e⟩ := e
  dsimp only at e
  split at e
  case isFalse => cases e
  rename_i hlen
  simp only [Option.bind_eq_some_iff] at e
  obtain ⟨⟨out, env2⟩, h2, env3, h3, e⟩ := e
  cases e
  refine hs _ _ _ _ _ _ _ _ _ _ S h1 fun J G1 H1 g1 S1 ok => fun D hD => ?_
  have hsl : ∀ q ∈ tmp, ∀ i, q.1 = .sl i → σ[i]? = some (some q.2) := fun q hq i e => by
    have := S1.tm q hq
    rw [e] at this
    exact this
  have nS : NoSl (unsl tmp) := unsl_no tmp
  have nS1 : ∀ {es : List PyData}, NoSl ((.ow es, .ref D) :: unsl tmp) := fun p hp i e => by
    rcases List.mem_cons.mp hp with z | z
    · rw [z] at e
      cases e
    · exact nS p z i e
  refine ⟨fun i m H => m = items.length - i ∧ i ≤ items.length ∧ ∃ G' envi done out', Same G1 G' ∧ SR K R G0 G' H envi (L2.wipe σ own) ((.ow done, .ref D) :: unsl tmp) ∧ compL ft fc (fun e => (fe e).bind fun r => Pd.frz r.2 r.1) own (items.drop i) envi = some (out', env2) ∧ done ++ out' = out ∧ done.length ≤ i,
    ⟨items.length, rfl, Nat.zero_le _, G1, _, [], out, Same.refl _, (S1.unsl.newL hD .nil).wipe nS1, by rw [List.drop_zero]; exact h2, rfl, Nat.le_refl _⟩, ?_⟩
  rintro i m H2 ⟨rfl, hi, G2, envi, done, out', g2, S2, hc, ho, hd⟩
  by_cases hlt : i < items.length
  · refine .inr ⟨ok.go i H2 (g2.trans S2.gh) hlt, fun H => ∃ G' envi done out', Same G1 G' ∧ SR K R G0 G' H envi (L2.wipe σ own) ((.ow done, .ref D) :: unsl tmp) ∧ compL ft fc (fun e => (fe e).bind fun r => Pd.frz r.2 r.1) own (items.drop (i + 1)) envi = some (out', env2) ∧ done ++ out' = out ∧ done.length ≤ i + 1,
      fun H' z => ⟨items.length - (i + 1), by omega, rfl, hlt, z⟩, fun x H' y => ?_⟩
    have hdr : items.drop i = items[i] :: items.drop (i + 1) := (List.drop_eq_getElem_cons hlt)
    rw [hdr] at hc
    unfold compL at hc
    simp only [Option.bind_eq_some_iff] at hc
    obtain ⟨ea, ha, ⟨b, eb⟩, hb, hc⟩ := hc
    obtain ⟨G3, g3, S3, r3⟩ := S2.yld g2 ok (d := items[i]) (List.getElem?_eq_getElem hlt) y
    refine hg _ _ _ _ _ _ _ _ _ _ _ S3 nS1 r3 ha fun σ4 G4 H4 g4 w4 S4 => ⟨by rw [w4.2 own hix, wipe_idem], ?_⟩
    have w4' : L2.wipe σ4 own = L2.wipe σ own := by rw [w4.2 own hix, wipe_idem]
    refine ht _ _ _ _ _ _ _ _ _ _ S4 hb fun G5 H5 g5 S5 => ?_
    have g15 : Same G1 G5 := g2.trans (g3.trans (g4.trans g5))
    cases b with
    | false =>
      dsimp only at hc
      refine ⟨G5, _, done, out', g15, ?_, hc, ho, by omega⟩
      have := S5.wipe (own := own) nS1
      rw [w4'] at this
      exact this
    | true =>
      simp only [Option.bind_eq_some_iff] at hc
      obtain ⟨⟨d6, e6⟩, ⟨⟨o6, e7⟩, he7, hf⟩, ⟨z1, z2⟩, hz, hc⟩ := hc
      cases hc
      refine he _ _ _ _ _ _ _ _ _ _ S5 he7 fun yv G7 H7 g7 S7 => ?_
      obtain ⟨G8, g8, S8, r8⟩ := S7.frz hf
      have S9 := S8
      obtain ⟨D', acc, eD, hacc, racc⟩ := S9.top
      cases eD
      refine ⟨acc, hacc, by
        have : acc.length = done.length := racc.len
        have z : sizeLine = 16777216 := rfl
        omega, ?_⟩
      refine ⟨G8, _, done ++ [d6], z1, g15.trans (g7.trans g8), ?_, hz, by rw [List.append_assoc]; exact ho, by rw [List.length_append]; show _ + 1 ≤ _; omega⟩
      have S10 := (S9.writeT (racc.app (.cons r8 .nil))).wipe (own := own) nS1
      rw [w4'] at S10
      exact S10
  · have hi' : items.drop i = [] := List.drop_eq_nil_of_le (by omega)
    rw [hi'] at hc
    cases hc
    refine .inl ⟨ok.stop i H2 (g2.trans S2.gh) (by omega), ?_⟩
    rw [List.append_nil] at ho
    subst ho
    have S3 := S2.unwipe S1 g2 nS1 h3
    exact q _ _ _ (g1.trans g2) (S3.resl (t' := [(.ow done, .ref D)]) hsl)
end
end Pd

/-! how often, and where first, a thing of any depth stands in a list or a tuple -/
namespace Pd
open PySem PySem.Spec PyProof.Rows L2
section
variable {X : Cx}
def rOftL (K : PySem.W.Frag) : V → List V → Hp → VK → Prop := fun x0 args H0 Q0 => ∃ (a : Addr) (y : V) (d : PyData) (ds : List PyData), x0 = .ref a ∧ args = [y] ∧ Dp K H0 (.ref a) (.list ds) ∧ Dp K H0 y d ∧ SeqAt.shaped (.list ds) = true ∧ SeqAt.shaped d = true ∧ Q0 (.int ((ds.countP fun z => PyData.eqv z d : Nat) : Int)) H0
theorem oft_eq {h : Heap} {its : List Value} {ds : List PyData} {as : List Addr} {d : PyData} (hr : ReadsAll h its ds as) (hc : PyData.canLayAll0 ds = true) : its.toArray.toList.countP (fun u => PyData.eqv (SeqAt.readOf h u) d) = ds.countP fun z => PyData.eqv z d := by
  have hm := SeqAt.readsAll_map ds its as hc hr
  show its.countP _ = _
  rw [← hm, List.countP_map]
  rfl
theorem mt_oftL (hu : X.A.units + 65 < cLine) : MtR X "list.count" (rOftL X.K) := by
  intro pi s0 σ0 H0 x0 args v0 us0 Q0 I0 r0 rs0 h0
  obtain ⟨a, y, d, ds, rfl, rfl, hl, hy, sl, sd, q⟩ := h0
  cases r0
  cases rs0 with
  | cons ry rt =>
    cases rt
    obtain ⟨bs, hb⟩ := Dp.reads I0 d y _ hy ry
    have hcl := SeqAt.canLay_of_shaped sl
    rw [PyData.canLay0] at hcl
    cases hl with
    | lst hs ha =>
      obtain ⟨its, rv, ⟨⟨cn, dd, dt, st⟩, n, ho, e1, e2, e3⟩, hlen⟩ := I0.list hs
      simp only at e1 e3
      subst e1 e3
      obtain ⟨as, hr⟩ := Dp.readsAll I0 ds _ its ha rv
      refine call_meets PySem.F.slot_list_count ⟨_, ho, rfl⟩ PySem.F.entry_list_count (PySem.F.args_list_count_2 _ _) (SeqAt.list_countAt a its.toArray n dd st _ fun u => PyData.eqv (SeqAt.readOf s0.heap u) d) ⟨ho, SeqAt.items_eqAt (show ReadsAll s0.heap its.toArray.toList ds as from hr) hb hcl (SeqAt.canLay_of_shaped sd) (room_in_shaped sd hu), ?_⟩
      rw [oft_eq hr hcl]
      exact ⟨.int _, H0, I0.tok _, ⟨_, rfl⟩, q⟩
end
end Pd

/-! methods of lists; a range made a list or a tuple -/
namespace Pd
open PySem PySem.Spec PyProof.Rows L2

section
variable {K : PySem.W.Frag} {R : RR} {G0 G H : Hp} {env env' : EnvD} {σ : L2.St} {tmp : Tmp}

/-- a method that changes the list at a -/
def MutOk (K : PySem.W.Frag) (r : V → List V → Hp → VK → Prop) (f : List PyData → List PyData → Option (List PyData × PyData)) : Prop :=
  ∀ (G H : Hp) (a : Addr) (xs vs : List V) (ds es ds' : List PyData) (d : PyData) (Q : VK), Same G H → H a = some (.lst xs) → RpAll K G xs ds → RpAll K G vs es → f ds es = some (ds', d) →
    (∀ v ys, RpAll K G ys ds' → Rp K G v d → Q v (upd H a (.lst ys))) → r (.ref a) vs H Q
theorem RpAll.dropLast : ∀ {vs : List V} {ds : List PyData}, RpAll K G vs ds → RpAll K G vs.dropLast ds.dropLast
  | _, _, .nil => .nil
  | _, _, .cons _ .nil => .nil
  | _, _, .cons r (.cons r2 rr) => .cons r (RpAll.dropLast (.cons r2 rr))
theorem mut_append : MutOk K rAppend (mutD .append) := by
  intro G H a xs vs ds es ds' d Q g ha r rv h q
  cases rv with
  | nil => cases h
  | cons r1 rr =>
    cases rr with
    | cons _ _ => cases h
    | nil =>
      unfold mutD at h
      dsimp only at h
      split at h
      · rename_i hl
        cases h
        refine ⟨a, xs, _, rfl, rfl, ha, ?_, q _ _ (r.app (.cons r1 .nil)) .non⟩
        have z : sizeLine = 16777216 := rfl
        have := r.len
        omega
      · cases h
theorem mut_extend : MutOk K rExtend (mutD .extend) := by
  intro G H a xs vs ds es ds' d Q g ha r rv h q
  cases rv with
  | nil => cases h
  | cons r1 rr =>
    cases rr with
    | cons _ _ =>
      cases r1 <;> cases h
    | nil =>
      cases r1 with
      | lst e1 r1 =>
        unfold mutD at h
        dsimp only at h
        split at h
        · rename_i hl
          cases h
          refine ⟨a, _, xs, _, rfl, rfl, ha, g _ _ e1, ?_, q _ _ (r.app r1) .non⟩
          have z : sizeLine = 16777216 := rfl
          have := r.len
          have := r1.len
          omega
        · cases h
      | _ => cases h
theorem mut_pop : MutOk K (fun x xs H Q => rPop x xs H Q ∨ rPopAt x xs H Q) (mutD .pop) := by
  intro G H a xs vs ds es ds' d Q g ha r rv h q
  cases rv with
  | nil =>
    have h : (ds.getLast?).map (fun x => (ds.dropLast, x)) = some (ds', d) := h
    rw [Option.map_eq_some_iff] at h
    obtain ⟨x, h1, e⟩ := h
    cases e
    rw [List.getLast?_eq_getElem?] at h1
    obtain ⟨v, hv, rv⟩ := r.get h1
    rw [← r.len] at hv
    exact .inl ⟨a, xs, v, rfl, rfl, ha, hv, q _ _ r.dropLast rv⟩
  | cons r1 rr =>
    cases rr with
    | cons _ _ => cases r1 <;> cases h
    | nil =>
      cases r1 with
      | int i =>
        unfold mutD at h
        dsimp only at h
        split at h
        · rename_i hb
          simp only [Option.bind_eq_some_iff, Option.map_eq_some_iff] at h
          obtain ⟨j, hj, x, hx, e⟩ := h
          cases e
          obtain ⟨v, hv, rv⟩ := r.get hx
          rw [← r.len] at hj
          exact .inr ⟨a, xs, i, j, v, rfl, rfl, ha, by omega, by omega, (ixN_seq hj).1, hv, q _ _ (r.erase j) rv⟩
        · cases h
      | _ => cases h
theorem tyV_list {a : Addr} {xs : List V} (h : H a = some (.lst xs)) : tyV K "list" (.ref a) H := .inl ⟨rfl, _, SqL.of h⟩
/-- the list of the name i is changed -/
theorem mut_fin {i : Nat} {a : Addr} {vs : List V} {es : List PyData} {r : V → List V → Hp → VK → Prop} {m : Mut} {f : List PyData → List PyData → Option (List PyData × PyData)} {o : Opd} {Q : VK} (hr : MutOk K r f) (S : SR K R G0 G H env σ tmp) (ea : σ[i]? = some (some (.ref a))) (rv : RpAll K G vs es)
    (h : (match env[i]? with
      | some (.ow ds) => (f ds es).bind fun r => some (.va r.2, env.set i (.ow r.1))
      | some (.io ds) => (f ds es).bind fun r => some (.va r.2, env.set i (.io r.1))
      | _ => none) = some (o, env')) (q : ∀ v H', SR K R G0 G H' env' σ ((o, v) :: tmp) → Q v H') : r (.ref a) vs H Q := by
  have fin : ∀ (ds : List PyData) (c : List PyData → Cell), (c = .ow ∨ c = .io) → env[i]? = some (c ds) → ∀ ds' d, f ds es = some (ds', d) → o = .va d → env' = env.set i (c ds') → r (.ref a) vs H Q := by
    intro ds c hc h3 ds' d h4 h5 h6
    subst h5
    subst h6
    have hcell : ∃ b xs, σ[i]? = some (some (.ref b)) ∧ H b = some (.lst xs) ∧ RpAll K G xs ds := by
      have z := S.slot i _ h3
      rcases hc with z1 | z1 <;> subst z1 <;> exact z
    obtain ⟨b, xs, eb, hb, rb⟩ := hcell
    rw [ea] at eb
    cases eb
    have hO : OwnS env σ i a := by
      rcases hc with z1 | z1 <;> subst z1
      · exact ⟨⟨ds, .inl h3⟩, ea⟩
      · exact ⟨⟨ds, .inr h3⟩, ea⟩
    exact hr G H a xs vs ds es ds' d Q S.gh hb rb rv h4 fun v ys ry rd => q v _ ((S.write hO (es := ds') (by rcases hc with z1 | z1 <;> subst z1 <;> first | exact .inl rfl | exact .inr ⟨rfl, _, h3⟩) ry _ rfl).pushVa rd)
  split at h
  · rename_i ds hk
    rw [Option.bind_eq_some_iff] at h
    obtain ⟨⟨ds', d⟩, h1, e⟩ := h
    cases e
    exact fin ds .ow (.inl rfl) hk ds' d h1 rfl rfl
  · rename_i ds hk
    rw [Option.bind_eq_some_iff] at h
    obtain ⟨⟨ds', d⟩, h1, e⟩ := h
    cases e
    exact fin ds .io (.inr rfl) hk ds' d h1 rfl rfl
  · cases h
theorem ok_mut {i : Nat} {r : V → List V → Hp → VK → Prop} {f : List PyData → List PyData → Option (List PyData × PyData)} {ta : TA} {fa : EnvD → Option (List Opd × EnvD)} (hr : MutOk K r f) (ha : TAok K ta fa) :
    TEok K (tBM K "list" r (tVar i) ta) (fun env => if isOwn env i then (fa env).bind fun p => (Pd.frzs p.2 p.1).bind fun q => match q.2[i]? with
      | some (.ow ds) => (f ds q.1).bind fun r => some (.va r.2, q.2.set i (.ow r.1))
      | some (.io ds) => (f ds q.1).bind fun r => some (.va r.2, q.2.set i (.io r.1))
      | _ => none else none) := by
  intro R G0 G H env σ tmp o env' Q S e q
  dsimp only at e
  split at e
  · rename_i ho
    simp only [Option.bind_eq_some_iff] at e
    obtain ⟨⟨os, e1⟩, h1, ⟨es, e2⟩, h2, e⟩ := e
    obtain ⟨a, ea⟩ := isOwn_of S ho
    have hH : ∃ xs, H a = some (.lst xs) := by
      unfold isOwn at ho
      split at ho
      · rename_i ds z
        obtain ⟨b, xs, eb, hb, _⟩ := S.slot i _ z
        rw [ea] at eb
        cases eb
        exact ⟨xs, hb⟩
      · rename_i ds z
        obtain ⟨b, xs, eb, hb, _⟩ := S.slot i _ z
        rw [ea] at eb
        cases eb
        exact ⟨xs, hb⟩
      · cases ho
    obtain ⟨xs, hH⟩ := hH
    refine ⟨.ref a, ea, tyV_list hH, ha _ _ _ _ _ _ _ _ _ _ S h1 fun vs G1 H1 l1 g1 S1 => ?_⟩
    obtain ⟨G2, g2, S2, r2⟩ := frzs_ok _ _ _ _ _ S1 l1 h2
    exact mut_fin (m := .append) hr S2 ea r2 e fun v H' S3 => q v G2 H' (g1.trans g2) S3
  · cases e
theorem ok_mut0 {i : Nat} {r : V → List V → Hp → VK → Prop} {f : List PyData → List PyData → Option (List PyData × PyData)} {Γ : Tab} (hr : MutOk K r f) :
    TEok K (tBM0 K "list" r (tVar i)) (fun env => if isOwn env i then (evEs Γ .nil env).bind fun p => (Pd.frzs p.2 p.1).bind fun q => match q.2[i]? with
      | some (.ow ds) => (f ds q.1).bind fun r => some (.va r.2, q.2.set i (.ow r.1))
      | some (.io ds) => (f ds q.1).bind fun r => some (.va r.2, q.2.set i (.io r.1))
      | _ => none else none) := by
  intro R G0 G H env σ tmp o env' Q S e q
  have z := ok_mut (K := K) (i := i) (r := r) (f := f) (ta := tNil) (fa := evEs Γ .nil) hr ok_nil R G0 G H env σ tmp o env' Q S e q
  exact z
theorem dp_list {G H : Hp} {a : Addr} {xs : List V} {ds : List PyData} (h : H a = some (.lst xs)) (r : RpAll K G xs ds) (g : Same G H) (hs : SeqAt.shaped (.list ds) = true) : Dp K H (.ref a) (.list ds) := by
  have hc := SeqAt.canLay_of_shaped hs
  rw [PyData.canLay0] at hc
  exact .lst (SqL.of h) ((r.mono g).dp ds hc)
theorem shaped_list {ds : List PyData} (h : SeqAt.shaped (.list ds) = true) : SeqAt.shaped (.tuple ds) = true := by
  unfold SeqAt.shaped at h ⊢
  simp only [PyData.canLay0, PyData.depth] at h ⊢
  exact h
/-- xs.count(y) -/
theorem ok_lcount {ta tb : TE} {fa fb : EnvD → Option (Opd × EnvD)} (ha : TEok K ta fa) (hb : TEok K tb fb) :
    TEok K (tBM K "list" (fun x xs H Q => rCntI K x xs H Q ∨ rOftL K x xs H Q) ta (tCons tb tNil)) (fun env => (fa env).bind fun p => (res p.2 p.1).bind fun x0 => (fb p.2).bind fun q => (res q.2 p.1).bind fun x => (res q.2 q.1).bind fun y => if sameK x0 x then (mthD .count x y).bind fun r => some (.va r, q.2) else none) := by
  intro R G0 G H env σ tmp o env' Q S e q
  simp only [Option.bind_eq_some_iff] at e
  obtain ⟨⟨o1, e1⟩, h1, d0, r0, ⟨o2, e2⟩, h2, d1, r1, d2, r2, e⟩ := e
  split at e
  · rename_i hk
    rw [Option.bind_eq_some_iff] at e
    obtain ⟨z, hz, e⟩ := e
    cases e
    cases d1 with
    | list ds =>
      have hd0 : ∃ es, d0 = .list es := by
        cases d0 <;> first | exact ⟨_, rfl⟩ | cases hk
      obtain ⟨es, hd0⟩ := hd0
      subst hd0
      have hz : cntL ds d2 = some z := hz
      refine ha _ _ _ _ _ _ _ _ _ _ S h1 fun v1 G1 H1 g1 S1 => ?_
      obtain ⟨a1, xs1, ev, ha1, _⟩ := S1.resL S1.top r0
      subst ev
      refine ⟨tyV_list ha1, hb _ _ _ _ _ _ _ _ _ _ S1 h2 fun v2 G2 H2 g2 S2 => ?_⟩
      obtain ⟨p, xs, ev, hp, rp⟩ := S2.resL S2.under r1
      cases ev
      have ry := S2.res S2.top r2
      have deep : oftD ds d2 = some z → rCntI K (.ref a1) [v2] H2 Q ∨ rOftL K (.ref a1) [v2] H2 Q := fun hz => by
        unfold oftD at hz
        split at hz
        · rename_i hs
          rw [Bool.and_eq_true] at hs
          cases hz
          exact .inr ⟨a1, v2, d2, ds, rfl, rfl, dp_list hp rp S2.gh hs.1, ry.dp _ (lay_of_shaped hs.2), hs.1, hs.2, q _ G2 H2 (g1.trans g2) (S2.pop.pop.pushVa (.int _))⟩
        · cases hz
      unfold cntL at hz
      split at hz
      · rename_i ns i hns _
        cases hz
        have hds := allInts_eq hns
        subst hds
        have ey := ry.intI
        subst ey
        rw [rp.ints] at hp
        exact .inl ⟨a1, ns, i, rfl, rfl, SqL.of hp, q _ G2 H2 (g1.trans g2) (S2.pop.pop.pushVa (.int _))⟩
      · exact deep hz
    | _ => cases hz
  · cases e
/-- xs.index(y) -/
theorem ok_lindex {ta tb : TE} {fa fb : EnvD → Option (Opd × EnvD)} (ha : TEok K ta fa) (hb : TEok K tb fb) :
    TEok K (tBM K "list" (rIndexD K) ta (tCons tb tNil)) (fun env => (fa env).bind fun p => (res p.2 p.1).bind fun x0 => (fb p.2).bind fun q => (res q.2 p.1).bind fun x => (res q.2 q.1).bind fun y => if sameK x0 x then (mthD .index x y).bind fun r => some (.va r, q.2) else none) := by
  intro R G0 G H env σ tmp o env' Q S e q
  simp only [Option.bind_eq_some_iff] at e
  obtain ⟨⟨o1, e1⟩, h1, d0, r0, ⟨o2, e2⟩, h2, d1, r1, d2, r2, e⟩ := e
  split at e
  · rename_i hk
    rw [Option.bind_eq_some_iff] at e
    obtain ⟨z, hz, e⟩ := e
    cases e
    cases d1 with
    | list ds =>
      have hd0 : ∃ es, d0 = .list es := by
        cases d0 <;> first | exact ⟨_, rfl⟩ | cases hk
      obtain ⟨es, hd0⟩ := hd0
      subst hd0
      have hz : idxL ds d2 = some z := hz
      unfold idxL at hz
      split at hz
      · rename_i hs
        rw [Bool.and_eq_true] at hs
        rw [Option.map_eq_some_iff] at hz
        obtain ⟨j, hj, e⟩ := hz
        subst e
        rw [List.findIdx?_eq_some_iff_getElem] at hj
        obtain ⟨hjl, hj1, hj2⟩ := hj
        refine ha _ _ _ _ _ _ _ _ _ _ S h1 fun v1 G1 H1 g1 S1 => ?_
        obtain ⟨a1, xs1, ev, ha1, _⟩ := S1.resL S1.top r0
        subst ev
        refine ⟨tyV_list ha1, hb _ _ _ _ _ _ _ _ _ _ S1 h2 fun v2 G2 H2 g2 S2 => ?_⟩
        obtain ⟨p, xs, ev, hp, rp⟩ := S2.resL S2.under r1
        cases ev
        have ry := S2.res S2.top r2
        refine ⟨a1, v2, d2, ds, j, ds[j], rfl, rfl, dp_list hp rp S2.gh hs.1, ry.dp _ (lay_of_shaped hs.2), hs.1, hs.2, List.getElem?_eq_getElem hjl, hj1, fun m z' hm hz' => ?_, q _ G2 H2 (g1.trans g2) (S2.pop.pop.pushVa (.int _))⟩
        have hml : m < ds.length := by omega
        rw [List.getElem?_eq_getElem hml] at hz'
        cases hz'
        simpa using hj2 m hm
      · cases hz
    | _ => cases hz
  · cases e
end
end Pd

/-! a range made a list or a tuple; enumerate of a tuple -/
namespace Pd
open PySem PySem.Spec PyProof.Rows L2

section
variable {K : PySem.W.Frag} {Γ : Tab}
def tRgL (tp : Bool) (te : L2.St → Hp → (Int → Int → Hp → Prop) → Prop) : TE := match tp with
  | false => tLstRg te
  | true => tTupRg te
theorem pe_rgL {X : Cx} {e : Expr} {te : L2.St → Hp → (Int → Int → Hp → Prop) → Prop} {p pos : Pos} (tp : Bool) (hc : X.calm = true) (hg : Gl X (if tp then ("tuple" : Str) else ("list" : Str))) (hm : X.mg (if tp then ("tuple" : Str) else ("list" : Str)) = none) (he : PRg X e te) (na : starEach [e] X.env = (false, eval e X.env) :: starEach [] X.env) :
    PE X (.Call (.Name (if tp then ("tuple" : Str) else ("list" : Str)) p) [e] [] pos) (tRgL tp te) := by
  cases tp with
  | false => exact pe_listRg hc hg hm he na
  | true => exact pe_tupRg hc hg hm he na
def RgFin (tp : Bool) (a b : Int) (H : Hp) (Q : VK) : Prop := match tp with
  | false => RgOk a b ∧ ∀ q, H q = none → Q (.ref q) (upd H q (.lst (rgV a b)))
  | true => RgOk a b ∧ ∀ q, H q = none → Q (.ref q) (upd H q (.tup (rgV a b)))
theorem rgL_fin {R : RR} {G0 G H : Hp} {env : EnvD} {σ : L2.St} {tmp : Tmp} {tp : Bool} {a b : Int} {o : Opd} {env' : EnvD} {ns : List Int} {Q : VK} (S : SR K R G0 G H env σ tmp) (hb : -1000000000000 ≤ a ∧ a ≤ 1000000000000 ∧ -1000000000000 ≤ b ∧ b ≤ 1000000000000) (hn : ns = (List.range (b - a).toNat).map fun (k : Nat) => a + (k : Int))
    (h : (if ns.length ≤ 16777216 then (match tp with
      | false => some (Opd.ow (ns.map .int), env)
      | true => some (Opd.va (.tuple (ns.map .int)), env)) else none) = some (o, env')) (q : ∀ v G' H', Same G G' → SR K R G0 G' H' env' σ ((o, v) :: tmp) → Q v H') : RgFin tp a b H Q := by
  split at h
  · rename_i hl
    have hok : RgOk a b := by
      have : (b - a).toNat ≤ 16777216 := by
        rw [hn] at hl
        simpa using hl
      exact ⟨by omega, by omega, by omega, by omega, by omega⟩
    have hv : rgV a b = ns.map V.int := by
      rw [hn, List.map_map]
      rfl
    have r : ∀ G, RpAll K G (rgV a b) (ns.map .int) := fun G => by
      rw [hv]
      exact .ofInts ns
    cases tp with
    | false =>
      cases h
      exact ⟨hok, fun p hp => q _ G _ (Same.refl _) (S.newL hp (r G))⟩
    | true =>
      cases h
      refine ⟨hok, fun p hp => ?_⟩
      obtain ⟨S', g'⟩ := S.newT hp (r G)
      exact q _ _ _ g' S'
  · cases h
theorem ok_rg1 {tp : Bool} {a : Ex} {ta : TE} (ha : TEok K ta (evE Γ a)) : TEok K (tRgL tp (tRg1 ta)) (evE Γ (.rngL tp (.cons a .nil))) := by
  intro R G0 G H env σ tmp o env' Q S e q
  have main : ta σ H fun x H1 => ∃ n, x = .int n ∧ RgFin tp 0 n H1 Q := by
    rw [evE] at e
    simp only [evEs, Option.bind_eq_some_iff] at e
    obtain ⟨⟨os, e1⟩, ⟨⟨o1, e2⟩, h1, ⟨os2, e3⟩, hnil, he⟩, ds, h2, ns, h3, e⟩ := e
    cases hnil
    cases he
    refine ha _ _ _ _ _ _ _ _ _ _ S h1 fun v G1 H1 g1 S1 => ?_
    unfold ress at h2
    simp only [Option.bind_eq_some_iff] at h2
    obtain ⟨d, hd, ds', hds, he⟩ := h2
    cases hds
    cases he
    unfold ints3 at h3
    split at h3
    · rename_i b hb
      cases hb
      have ev := (S1.res S1.top hd).intI
      subst ev
      split at h3
      · rename_i hb
        cases h3
        refine ⟨b, rfl, rgL_fin S1.pop ⟨by omega, by omega, hb.1, hb.2⟩ (by rw [Int.sub_zero]; exact List.map_congr_left fun k _ => (Int.zero_add _).symm) e fun v G' H' g S' => q v G' H' (g1.trans g) S'⟩
      · cases h3
    · rename_i hb
      cases hb
    · rename_i hb
      cases hb
    · cases h3
  cases tp <;> exact main
theorem ok_rg2 {tp : Bool} {a b : Ex} {ta tb : TE} (ha : TEok K ta (evE Γ a)) (hb : TEok K tb (evE Γ b)) : TEok K (tRgL tp (tRg2 ta tb)) (evE Γ (.rngL tp (.cons a (.cons b .nil)))) := by
  intro R G0 G H env σ tmp o env' Q S e q
  have main : ta σ H fun x H1 => tb σ H1 fun y H2 => ∃ i j, x = .int i ∧ y = .int j ∧ RgFin tp i j H2 Q := by
    rw [evE] at e
    simp only [evEs, Option.bind_eq_some_iff] at e
    obtain ⟨⟨os, e1⟩, ⟨⟨o1, e2⟩, h1, ⟨os2, e3⟩, ⟨⟨o2, e4⟩, h4, ⟨os3, e5⟩, hnil, he2⟩, he⟩, ds, h2, ns, h3, e⟩ := e
    cases hnil
    cases he2
    cases he
    refine ha _ _ _ _ _ _ _ _ _ _ S h1 fun v G1 H1 g1 S1 => ?_
    refine hb _ _ _ _ _ _ _ _ _ _ S1 h4 fun w G2 H2 g2 S2 => ?_
    unfold ress at h2
    simp only [Option.bind_eq_some_iff] at h2
    obtain ⟨d, hd, ds', hds, he⟩ := h2
    cases he
    unfold ress at hds
    simp only [Option.bind_eq_some_iff] at hds
    obtain ⟨d', hd', ds'', hds, he⟩ := hds
    cases he
    cases hds
    unfold ints3 at h3
    split at h3
    · rename_i hb
      cases hb
    · rename_i i j hb
      cases hb
      have ev := (S2.res S2.under hd).intI
      subst ev
      have ew := (S2.res S2.top hd').intI
      subst ew
      split at h3
      · rename_i hb
        cases h3
        exact ⟨i, j, rfl, rfl, rgL_fin S2.pop.pop ⟨hb.1, hb.2.1, hb.2.2.1, hb.2.2.2⟩ rfl e fun v G' H' g S' => q v G' H' (g1.trans (g2.trans g)) S'⟩
      · cases h3
    · rename_i hb
      cases hb
    · cases h3
  cases tp <;> exact main
end

/-! ### enumerate of a tuple -/
section
variable {prog : Program} {w : World} {A : Around} {E : Value → Shared → Prop} {s : Shared}
set_option maxHeartbeats 1000000 in
theorem newEnum1 {v : Value} {ob : Obj} {Hh : Heap → Prop} (B : Begins v ob Hh) :
    Meets (Builtin.«enumerate.__new__» ⟨[.type "enumerate", v], []⟩) (fun _ R st => Hh st.heap ∧
      R (.ok (.ret (.ref (st.heap.push ob).objs.size))) { st with heap := (st.heap.push ob).push { cls := .type "enumerate", data := .fields #[.none, .bool false, .ref st.heap.objs.size, rawInt 0, .none, .none] } }) :=
  .of_wp fun pr ww Aa R st hh => by
    obtain ⟨hp, gg, dd, tk, os⟩ := st
    obtain ⟨b1, hh⟩ := hh
    have hsub := sub_enumerate
    have go : ∀ {A' : Around} {E : Value → Shared → Prop} {Q : Value → Shared → Prop}, Q (.ref hp.objs.size) ⟨hp.push ob, gg, dd, tk, os⟩ → wpAny (model pr ww) A' (pyIter v) Q E ⟨hp, gg, dd, tk, os⟩ :=
      fun z => B.iter pr ww _ _ ⟨hp, gg, dd, tk, os⟩ _ b1 z
    wp_walk using go
    refine wpAny_stack_any fun sk => wpAny_pure ?_
    split
    · rename_i cc _ _ _ _ _
      cases (cc == Value.type "enumerate")
      · wp_walk using go
        exact ⟨_, rfl, hh⟩
      · wp_walk using go
        exact ⟨_, rfl, hh⟩
    · wp_walk using go
      exact ⟨_, rfl, hh⟩
theorem callEnum1 {v : Value} {ob : Obj} {Hh : Heap → Prop} {Q : Value → Shared → Prop} (B : Begins v ob Hh) (b1 : Hh s.heap)
    (hq : ∀ h', IsEnum h' (s.heap.objs.size + 1) s.heap.objs.size 0 .none → h'.get? s.heap.objs.size = some ob → h'.objs.size = s.heap.objs.size + 2 →
      (∀ b u, s.heap.get? b = some u → h'.get? b = some u) → Q (.ref (s.heap.objs.size + 1)) { s with heap := h' }) :
    wpAny (model prog w) A (call (.type "enumerate") [v]) Q E s := by
  refine callType_new F.called_enumerate (by decide) (F.typeCall_enumerate_1 _) (F.newCall_enumerate_1 _) (fun obj => F.args_object_init_2 obj _) F.entry_enumerate_new (newEnum1 B) ⟨b1, ?_⟩
  have z1 : (s.heap.push ob).objs.size = s.heap.objs.size + 1 := Heap.size_push ..
  show _ ∧ _
  rw [z1]
  have en : IsEnum ((s.heap.push ob).push { cls := .type "enumerate", data := .fields #[.none, .bool false, .ref s.heap.objs.size, rawInt 0, .none, .none] }) (s.heap.objs.size + 1) s.heap.objs.size 0 .none := by
    have y := Heap.get?_push_size (s.heap.push ob) (o := { cls := .type "enumerate", data := .fields #[.none, .bool false, .ref s.heap.objs.size, rawInt 0, .none, .none] }) rfl
    rw [z1] at y
    exact y
  exact ⟨⟨_, en, rfl⟩, hq _ en (Heap.get?_push_of_some _ (Heap.get?_push_size _ B.free)) (by rw [Heap.size_push, z1]) fun b u x => Heap.get?_push_of_some _ (Heap.get?_push_of_some _ x)⟩
end
/-- the tuple at a, each item in a new pair -/
def IteT (K : PySem.W.Frag) (a : Addr) : It :=
  ⟨fun i H => ∃ (xs : List V) (x : V), SqT K H a xs ∧ xs[i]? = some x, fun i H v H' => ∃ T x, v = .ref T ∧ H T = none ∧ H' = upd H T (.tup [.int (i : Nat), x]) ∧ ∀ xs, SqT K H a xs → xs[i]? = some x, fun i H => ∃ xs : List V, SqT K H a xs ∧ xs.length ≤ i⟩
theorem turn_enumT {P : Program} {w : World} {K : PySem.W.Frag} {elts : List Expr} {kk : Nat} {tpos : Pos} (a en it : Addr) (hai : a ≠ it) :
    Turn P w K (.Tuple elts kk tpos) (IteT K a) [en, it] en (fun i h => (∃ old, IsEnum h en it ((i : Nat) : Int) old) ∧ h.IsTupleIter it a i ∧ en ≠ it ∧ a ≠ en) where
  mem := by simp
  obj := fun i h st b hb => by
    obtain ⟨⟨old, he⟩, ⟨o, ho, hc, hd⟩, _⟩ := st
    rcases (by simpa using hb : b = en ∨ b = it) with z | z
    · rw [z]
      exact ⟨_, he, fun v q => nomatch q⟩
    · rw [z]
      exact ⟨o, ho, fun v q => by
        rw [hd] at q
        cases q⟩
  keep := fun i h h' st k => by
    obtain ⟨⟨old, he⟩, hi, hn1, hn2⟩ := st
    exact ⟨⟨old, k en (by simp) _ he⟩, hi.at fun o q => k it (by simp) o q, hn1, hn2⟩
  item := by
    intro X hP hw hK hc i pins s σ H E I hf st hg
    subst hP hw hK
    obtain ⟨⟨old, he⟩, hit, hne, han⟩ := st
    obtain ⟨xs, x, hq, hx⟩ := hg
    obtain ⟨its, rv, p, hz⟩ := I.tuple hq
    obtain ⟨u, hu, ru⟩ := rv.get hx
    have hel : en < s.heap.objs.size := Heap.lt_size he
    have hil : it < s.heap.objs.size := by
      obtain ⟨_, q, _⟩ := hit
      exact Heap.lt_size q
    have hlt : i < its.toArray.size := by
      obtain ⟨z, _⟩ := List.getElem?_eq_some_iff.mp hu
      simpa using z
    have afp : en ∉ [it, a] := fun z => by
      rcases (by simpa using z : en = it ∨ en = a) with z | z
      · exact hne z
      · exact han z.symm
    refine wpAny_pyNext_enum_itemD (Draws.tuple (prog := X.prog) (w := X.w) (A := X.A.in1) (I.ok.hd hc) it a hai its.toArray) he ⟨hit, show s.heap.IsTuple a its.toArray from p⟩ hlt hne afp fun y h' tk hy ho st' hT hsz hk => ?_
    have ey : y = u := by
      have hy : its.toArray[i]? = some y := hy
      rw [show its.toArray[i]? = some u by simpa using hu] at hy
      exact (Option.some.inj hy).symm
    subst ey
    refine ⟨_, rfl, wpAny_letOwnedTupleGo_enum (s := { s with heap := h', toks := tk + 1 }) ho fun h2 he' sb => ?_⟩
    have hT2 : h2.get? s.heap.objs.size = some { cls := .type "tuple", data := .seq #[.int i tk, y] } := (sb.2 _ (Nat.ne_of_gt hel)).trans hT
    have new : ObjOk X.prog X.w (upd H s.heap.objs.size (.tup [.int (i : Nat), x])) h2 s.heap.objs.size (.tup [.int (i : Nat), x]) :=
      ⟨show 2 ≤ sizeLine by decide, [.int i tk, y], .cons ⟨_, rfl⟩ (.cons ru .nil), ⟨_, hT2, rfl, _, rfl⟩⟩
    have I1 : Inv X pins σ (upd H s.heap.objs.size (.tup [.int (i : Nat), x])) { s with heap := h2, toks := tk + 1 } :=
      I.turnedNew (ch := [en, it]) (fun b ob hb q => (sb.2 b (fun z => hb (by simp [z]))).trans (hk b ob (fun z => hb (by simp [z])) (fun z => hb (by simp [z])) q)) hf (Nat.le_refl _) new
    refine ⟨.ref s.heap.objs.size, _, I1, rfl, ⟨_, x, rfl, I.hok.fresh (Nat.le_refl _), rfl, fun ys hy => by
      rw [I.tuple_inj hy hq]
      exact hx⟩, ⟨⟨y, ?_⟩, st'.1.at fun o q => (sb.2 it (Ne.symm hne)).trans q, hne, han⟩, fun b hb => ?_⟩
    · have e1 : ((i + 1 : Nat) : Int) = (i : Int) + 1 := by omega
      rw [e1]
      exact he'
    · have hb' : b < s.heap.objs.size := by
        rcases (by simpa using hb : b = en ∨ b = it) with z | z
        · rw [z]
          exact hel
        · rw [z]
          exact hil
      rw [upd_ne (Nat.ne_of_lt hb')]
      exact (hf b hb).1
  done := by
    intro X hP hw hK hc i pins s σ H E I hf st hg
    subst hP hw hK
    obtain ⟨⟨old, he⟩, hit, hne, han⟩ := st
    obtain ⟨xs, hq, hx⟩ := hg
    obtain ⟨its, rv, p, hz⟩ := I.tuple hq
    obtain ⟨f0, f1, f2, f3, f4, f5⟩ := hf it (by simp)
    have hl := rv.length
    unfold pyNext
    refine wpAny_bind (wpAny_attempt (wpAny_callSpecial?_slot (name := Str.ofString "__next__") (show s.TypeIs (.ref en) "enumerate" from ⟨_, he, rfl⟩) F.slot_enumerate_next
      (wpAny_call_entry F.slot_enumerate_next ⟨_, he, rfl⟩ F.entry_enumerate_next ?_ (F.args_enumerate_next_1 _))))
    show wpAny _ _ (field (.ref en) 2 >>= _) _ _ _
    refine wpAny_bind (wpAny_field he rfl (x := .ref it) rfl ?_)
    refine wpAny_bind (wpAny_nextOf_tuple_end (I.ok.hd hc) hit (show s.heap.IsTuple a its.toArray from p) (by simp; omega) fun h' ex he' hx' => ?_)
    obtain ⟨o, ho, hcl⟩ := hx'
    refine wpAny_bind (wpAny_isInstance (T := "StopIteration") (b := true) ⟨o, ho, hcl⟩ isSubtype_stop ?_)
    exact wpAny_pure ⟨rfl, I.turned (t' := s.toks) (fun b o hb q => he' b o hb q) f0 f1 f3 f4 f5⟩
  self := fun A i s Q E st h => by
    obtain ⟨⟨_, he⟩, _⟩ := st
    exact wpAny_pyIter_enum he h
/-- enumerate of a list or of a tuple -/
def iEnumA (K : PySem.W.Frag) (ta : TA) : TI := fun σ H R => ta σ H fun vs H1 => ∃ a xs, vs = [.ref a] ∧ ((SqL K H1 a xs ∧ R (Ite K a) H1) ∨ (SqT K H1 a xs ∧ R (IteT K a) H1))
theorem pi_enumA {X : Cx} {e : Expr} {ta : TA} {p pos tpos : Pos} {elts : List Expr} {kk : Nat} (hg : Gl X "enumerate") (hm : X.mg "enumerate" = none) (ha : PA X [e] ta) (hs : starEach [e] X.env = [(false, eval e X.env)]) :
    PI X (.Tuple elts kk tpos) (.Call (.Name "enumerate" p) [e] [] pos) (iEnumA X.K ta) := by
  refine ⟨fun pins s σ H R I h => ?_⟩
  refine Call_ (ld_blt I hg hm boot_enumerate (PyProof.Rows.callWith_type1 (thn (ha.run pos pins s σ H _ I h) fun us s1 ⟨vs, H1, I1, r1, q1⟩ => ?_) hs rfl))
  obtain ⟨a, xs, ex, q1⟩ := q1
  subst ex
  cases r1 with
  | cons r rr =>
    cases rr
    cases r
    have fresh2 : ∀ b, b ∈ [s1.heap.objs.size + 1, s1.heap.objs.size] → FpOk X pins H1 b := fun b hb => by
      have hle : s1.heap.objs.size ≤ b := by
        rcases (by simpa using hb : b = s1.heap.objs.size + 1 ∨ b = s1.heap.objs.size) with z | z
        · rw [z]
          exact Nat.le_add_right _ _
        · rw [z]
          exact Nat.le_refl _
      exact I1.fpOk hle (I1.hok.fresh hle)
    rcases q1 with ⟨hq, q⟩ | ⟨hq, q⟩
    · obtain ⟨its, rv, p', hz⟩ := I1.list hq
      refine call_enumerate_list p'.isList fun h' he hit hsz hk => wpAny_pyIter_enum he ?_
      have I2 : Inv X pins σ H1 { s1 with heap := h' } := I1.kept (t' := s1.toks) hk
      exact ⟨s1.heap.objs.size + 1, [s1.heap.objs.size + 1, s1.heap.objs.size], _, _, H1, rfl, I2, turn_enum a (s1.heap.objs.size + 1) s1.heap.objs.size, ⟨⟨.none, he⟩, hit, Nat.succ_ne_self _⟩, fresh2, q⟩
    · obtain ⟨its, rv, p', hz⟩ := I1.tuple hq
      have hal : a < s1.heap.objs.size := by
        obtain ⟨o, ho, _⟩ := id p'
        exact Heap.lt_size ho
      refine callEnum1 (begins_tuple a its.toArray) (show s1.heap.IsTuple a its.toArray from p') fun h' he hit hsz hk => wpAny_pyIter_enum he ?_
      have I2 : Inv X pins σ H1 { s1 with heap := h' } := I1.kept (t' := s1.toks) hk
      exact ⟨s1.heap.objs.size + 1, [s1.heap.objs.size + 1, s1.heap.objs.size], _, _, H1, rfl, I2, turn_enumT a (s1.heap.objs.size + 1) s1.heap.objs.size (Nat.ne_of_lt hal), ⟨⟨.none, he⟩, ⟨_, hit, rfl, rfl⟩, Nat.succ_ne_self _, Nat.ne_of_lt (Nat.lt_succ_of_lt hal)⟩, fresh2, q⟩
section
variable {K : PySem.W.Frag}
theorem it_enumT {G : Hp} {a : Addr} {xs : List V} {ds : List PyData} (ha : G a = some (.tup xs)) (r : RpAll K G xs ds) : ItOk K (IteT K a) (enumF 0 ds) G where
  go := fun i H g hi => by
    rw [enumF_len] at hi
    exact ⟨xs, xs[i]'(by rw [r.len]; exact hi), SqT.of (g _ _ ha), by simp⟩
  stop := fun i H g hi => by
    rw [enumF_len] at hi
    exact ⟨xs, SqT.of (g _ _ ha), by rw [r.len]; exact hi⟩
  yld := fun i H x H' d g hd y => by
    obtain ⟨T, u, e1, e2, e3, y⟩ := y
    rw [enumF_get] at hd
    cases z : ds[i]? with
    | none =>
      rw [z] at hd
      cases hd
    | some d' =>
      rw [z] at hd
      cases hd
      obtain ⟨v, hv, rv⟩ := r.get z
      have := y xs (SqT.of (g _ _ ha))
      rw [hv] at this
      cases this
      refine .inr ⟨T, _, _, e1, e2, e3, rfl, ?_⟩
      rw [Nat.zero_add]
      exact .cons (.int _) (.cons rv .nil)
theorem ok_srcEnumA {ta : TE} {fa : EnvD → Option (Opd × EnvD)} (ha : TEok K ta fa) : TIok K (iEnumA K (tCons ta tNil)) (fun env => (fa env).bind fun p => (Pd.frz p.2 p.1).bind fun q => (Pd.items q.1).bind fun ds => some (enumF 0 ds, q.2)) := by
  intro R G0 G H env σ tmp ds env' Rk S e q
  simp only [Option.bind_eq_some_iff] at e
  obtain ⟨⟨o1, e1⟩, h1, ⟨d, e2⟩, h2, es, h3, e⟩ := e
  cases e
  refine ha _ _ _ _ _ _ _ _ _ _ S h1 fun v G1 H1 g1 S1 => ?_
  obtain ⟨G2, g2, S2, r⟩ := S1.frz h2
  cases d with
  | list es' =>
    cases h3
    obtain ⟨a, xs, ev, hx, rx⟩ := r.listI
    subst ev
    exact ⟨a, xs, rfl, .inl ⟨SqL.of (S2.gh _ _ hx), q _ G2 H1 (g1.trans g2) S2 (it_enum hx rx)⟩⟩
  | tuple es' =>
    cases h3
    obtain ⟨a, xs, ev, hx, rx⟩ := r.tupI
    subst ev
    exact ⟨a, xs, rfl, .inr ⟨SqT.of (S2.gh _ _ hx), q _ G2 H1 (g1.trans g2) S2 (it_enumT hx rx)⟩⟩
  | _ => cases h3
end
end Pd

/-! list(zip(a, b)) of two lists -/
namespace Pd
open PySem PySem.Spec PyProof.Rows L2
theorem zip_no_len : typeLookup (.type "zip") "__len__" = pure none := by rw [typeLookup_type, builtinLookup_eq_fast]; kernel_rfl
theorem zip_no_hint : typeLookup (.type "zip") "__length_hint__" = pure none := by rw [typeLookup_type, builtinLookup_eq_fast]; kernel_rfl
structure ZOff (S z TI TO i1 i2 l1 l2 : Addr) : Prop where
  z : S ≠ z
  TI : S ≠ TI
  TO : S ≠ TO
  i1 : S ≠ i1
  i2 : S ≠ i2
  l1 : S ≠ l1
  l2 : S ≠ l2
def ZSt (h : Heap) (S z TI TO i1 i2 l1 l2 : Addr) (xs ys : Array Value) (i : Nat) : Prop :=
  IsPair h TI (.ref i1) (.ref i2) ∧ h.IsListIter i1 l1 i ∧ h.IsListIter i2 l2 i ∧ h.IsList l1 xs ∧ h.IsList l2 ys ∧
    ((IsZip h z TI TO .none ∧ ∃ a b, IsPair h TO a b) ∨ ∃ T f oT, IsZipHeld h z TI TO T f ∧ h.get? T = some oT ∧ T ≠ z ∧ T ≠ i1 ∧ T ≠ i2 ∧ T ≠ S)
section
variable {prog : Program} {w : World} {A : Around} {E : Value → Shared → Prop} {s : Shared} {S z TI TO i1 i2 l1 l2 : Addr} {xs ys : Array Value}
theorem ZSt.keep {h h' : Heap} {i : Nat} (st : ZSt h S z TI TO i1 i2 l1 l2 xs ys i) (O : ZOff S z TI TO i1 i2 l1 l2) (hk : ∀ b o, b ≠ S → h.get? b = some o → h'.get? b = some o) : ZSt h' S z TI TO i1 i2 l1 l2 xs ys i := by
  obtain ⟨hTI, h1, h2, hl1, hl2, hz⟩ := st
  refine ⟨hk _ _ O.TI.symm hTI, h1.at fun o e => hk _ o O.i1.symm e, h2.at fun o e => hk _ o O.i2.symm e, hl1.at fun o e => hk _ o O.l1.symm e, hl2.at fun o e => hk _ o O.l2.symm e, ?_⟩
  rcases hz with ⟨hz, a, b, hTO⟩ | ⟨T, f, oT, hz, hT, r1, r2, r3, r4⟩
  · exact .inl ⟨hk _ _ O.z.symm hz, a, b, hk _ _ O.TO.symm hTO⟩
  · exact .inr ⟨T, f, oT, hk _ _ O.z.symm hz, hk _ _ r4 hT, r1, r2, r3, r4⟩
theorem zl_item {i : Nat} {x y : Value} {Q : Option Value → Shared → Prop} (D : ZipApart z TI TO i1 i2 l1 l2) (st : ZSt s.heap S z TI TO i1 i2 l1 l2 xs ys i) (hS : S < s.heap.objs.size) (ex : xs[i]? = some x) (ey : ys[i]? = some y)
    (hQ : ∀ h', ZSt h' S z TI TO i1 i2 l1 l2 xs ys (i + 1) → h'.get? s.heap.objs.size = some { cls := .type "tuple", data := .seq #[x, y] } → h'.objs.size = s.heap.objs.size + 1 →
      (∀ c o, c ≠ z → c ≠ TO → c ≠ i1 → c ≠ i2 → s.heap.get? c = some o → h'.get? c = some o) → Q (some (.ref s.heap.objs.size)) { s with heap := h' }) : wpAny (model prog w) A (pyNext (.ref z)) Q E s := by
  obtain ⟨hTI, h1, h2, hl1, hl2, hz⟩ := st
  have lt : ∀ {c o}, s.heap.get? c = some o → s.heap.objs.size ≠ c := fun e => Nat.ne_of_gt (Heap.lt_size e)
  have n1 : s.heap.objs.size ≠ i1 := let ⟨_, e, _⟩ := h1; lt e
  have n2 : s.heap.objs.size ≠ i2 := let ⟨_, e, _⟩ := h2; lt e
  rcases hz with ⟨hz, a, b, hTO⟩ | ⟨T, f, oT, hz, hT, r1, r2, r3, r4⟩
  · refine wpAny_pyNext_zip_item D hz hTI hTO h1 h2 hl1 hl2 ex ey fun h' a1 a2 a3 a4 a5 a6 hk => ?_
    exact hQ h' ⟨hk _ _ D.TIz D.TITO D.TIi1 D.TIi2 hTI, a3, a4, hl1.at fun o e => hk _ o D.l1z D.l1TO D.l1i1 D.l1i2 e, hl2.at fun o e => hk _ o D.l2z D.l2TO D.l2i1 D.l2i2 e,
        .inr ⟨s.heap.objs.size, false, _, a1, a5, lt hz, n1, n2, Nat.ne_of_gt hS⟩⟩ a5 a6 hk
  · refine wpAny_pyNext_zip_item_held D hz hT hTI h1 h2 hl1 hl2 ex ey fun h' a1 a3 a4 a5 a6 hk => ?_
    exact hQ h' ⟨hk _ _ D.TIz D.TIi1 D.TIi2 hTI, a3, a4, hl1.at fun o e => hk _ o D.l1z D.l1i1 D.l1i2 e, hl2.at fun o e => hk _ o D.l2z D.l2i1 D.l2i2 e,
        .inr ⟨T, true, oT, a1, hk _ _ r1 r2 r3 hT, r1, r2, r3, r4⟩⟩ a5 a6 fun c o c1 _ c3 c4 e => hk c o c1 c3 c4 e
theorem zl_done {i : Nat} {Q : Option Value → Shared → Prop} (hh : A.handled = none) (D : ZipApart z TI TO i1 i2 l1 l2) (st : ZSt s.heap S z TI TO i1 i2 l1 l2 xs ys i) (hend : xs[i]? = none ∨ ys[i]? = none)
    (hQ : ∀ h', (∀ c o, c ≠ z → c ≠ TO → c ≠ i1 → c ≠ i2 → s.heap.get? c = some o → h'.get? c = some o) → Q none { s with heap := h' }) : wpAny (model prog w) A (pyNext (.ref z)) Q E s := by
  obtain ⟨hTI, h1, h2, hl1, hl2, hz⟩ := st
  rcases hz with ⟨hz, a, b, hTO⟩ | ⟨T, f, oT, hz, hT, r1, r2, r3, r4⟩
  · exact wpAny_pyNext_zip_end hh D hz hTI hTO h1 h2 hl1 hl2 hend fun h' hk => hQ h' hk
  · exact wpAny_pyNext_zip_end_held hh D hz hT hTI h1 h2 hl1 hl2 hend fun h' hk => hQ h' fun c o c1 _ c3 c4 e => hk c o c1 c3 c4 e
structure ZG (xs ys : Array Value) (lo : Addr) (h : Heap) (as : List Addr) : Prop where
  rise : as.Pairwise (· < ·)
  above : ∀ a ∈ as, lo < a
  pairs : ∀ (j : Nat) (a : Addr), as[j]? = some a → ∃ x y, xs[j]? = some x ∧ ys[j]? = some y ∧ h.get? a = some { cls := .type "tuple", data := .seq #[x, y] }
theorem ZG.there {lo : Addr} {h : Heap} {as : List Addr} (g : ZG xs ys lo h as) {a : Addr} (ha : a ∈ as) : a < h.objs.size := by
  obtain ⟨j, hj⟩ := List.mem_iff_getElem?.mp ha
  obtain ⟨_, _, _, _, e⟩ := g.pairs j a hj
  exact Heap.lt_size e
theorem zl_loop {R : Result → Shared → Prop} (hh : A.handled = none) (D : ZipApart z TI TO i1 i2 l1 l2) (O : ZOff S z TI TO i1 i2 l1 l2) (low : z < S ∧ TO < S ∧ i1 < S ∧ i2 < S) (n : Nat) (hn : n = min xs.size ys.size) (hz : n ≤ sizeLine) (res : Value) {h₁ : Heap}
    (hR : ∀ h' tk acc c as, (∀ b o, b ≠ S → b ≠ z → b ≠ TO → b ≠ i1 → b ≠ i2 → h₁.get? b = some o → h'.get? b = some o) → h'.get? S = some { cls := .type "list", dict := none, data := .seq acc c, slots := #[] } → as.length = n → ZG xs ys S h' as →
      acc.toList = as.map Value.ref → R (.ok (.ret res)) { s with heap := h', toks := tk }) :
    ∀ (k i : Nat) (h : Heap) (tk c : Nat) (acc : Array Value) (as : List Addr), n - i = k → i ≤ n → ZSt h S z TI TO i1 i2 l1 l2 xs ys i → (∀ b o, b ≠ S → b ≠ z → b ≠ TO → b ≠ i1 → b ≠ i2 → h₁.get? b = some o → h.get? b = some o) →
      h.get? S = some { cls := .type "list", dict := none, data := .seq acc c, slots := #[] } → acc.toList = as.map Value.ref → as.length = i → ZG xs ys S h as →
      codeAny (model prog w) A (.builtin "list.extend.loop" ⟨[.ref S, .ref z, res], []⟩) R { s with heap := h, toks := tk } := by
  intro k
  induction k with
  | zero =>
    intro i h tk c acc as hk hi hst hkeep hS hacc hal hG
    have hin : i = n := by omega
    have hend : xs[i]? = none ∨ ys[i]? = none := by
      rcases Nat.le_total xs.size ys.size with q | q
      · exact .inl (Array.getElem?_eq_none (by omega))
      · exact .inr (Array.getElem?_eq_none (by omega))
    refine codeAny_builtin PySem.F.entry_extend_loop ?_
    rw [Around.under_plainId PySem.F.plain_extend_loop _]
    show wpAny _ A.in1 (pyNext (.ref z) >>= _) _ _ _
    refine wpAny_bind (zl_done (s := { s with heap := h, toks := tk }) (A := A.in1) hh D hst hend fun h' he => ?_)
    refine wpAny_pure (hR h' tk acc c as (fun b o h1 h2 h3 h4 h5 e => he b o h2 h3 h4 h5 (hkeep b o h1 h2 h3 h4 h5 e)) (he S _ O.z O.TO O.i1 O.i2 hS) (by omega) ⟨hG.rise, hG.above, fun j a hj => ?_⟩ hacc)
    obtain ⟨x, y, e1, e2, e3⟩ := hG.pairs j a hj
    have hb := hG.above a (List.mem_of_getElem? hj)
    exact ⟨x, y, e1, e2, he a _ (Nat.ne_of_gt (Nat.lt_trans low.1 hb)) (Nat.ne_of_gt (Nat.lt_trans low.2.1 hb)) (Nat.ne_of_gt (Nat.lt_trans low.2.2.1 hb)) (Nat.ne_of_gt (Nat.lt_trans low.2.2.2 hb)) e3⟩
  | succ k ih =>
    intro i h tk c acc as hk hi hst hkeep hS hacc hal hG
    have hlt : i < n := by omega
    obtain ⟨x, ex⟩ : ∃ x, xs[i]? = some x := ⟨xs[i]'(by omega), Array.getElem?_eq_getElem (by omega)⟩
    obtain ⟨y, ey⟩ : ∃ y, ys[i]? = some y := ⟨ys[i]'(by omega), Array.getElem?_eq_getElem (by omega)⟩
    have hsz : acc.size = i := by rw [← Array.length_toList, hacc, List.length_map, hal]
    refine codeAny_builtin PySem.F.entry_extend_loop ?_
    rw [Around.under_plainId PySem.F.plain_extend_loop _]
    show wpAny _ A.in1 (pyNext (.ref z) >>= _) _ _ _
    refine wpAny_bind (zl_item (s := { s with heap := h, toks := tk }) (S := S) D hst (Heap.lt_size hS) ex ey fun h' hst' ht hz' hkp => ?_)
    dsimp only at ht hz' hkp ⊢
    have hS' := hkp S _ O.z O.TO O.i1 O.i2 hS
    have up : ∀ b o, b ≠ S → h'.get? b = some o → (h'.update S (Obj.mapSeq (·.push (Value.ref h.objs.size)))).get? b = some o := fun b o hb e => (Heap.get?_update_other _ _ (Ne.symm hb)).trans e
    have hSl : S < h.objs.size := Heap.lt_size hS
    show wpAny _ A.in1 (updateSeq S (·.push (Value.ref h.objs.size)) >>= _) _ _ _
    refine wpAny_bind ?_
    refine wpAny_updateSeq hS' rfl (wpAny_pure ⟨plainId_quiet PySem.F.plain_extend_loop _, ih (i + 1) _ tk _ (acc.push (Value.ref h.objs.size)) (as ++ [h.objs.size]) (by omega) hlt (hst'.keep O up)
      (fun b o h1 h2 h3 h4 h5 e => up b o h1 (hkp b o h2 h3 h4 h5 (hkeep b o h1 h2 h3 h4 h5 e))) (Heap.get?_update_self _ hS' rfl) (by rw [Array.toList_push, hacc, List.map_append]; rfl) (by rw [List.length_append, hal]; rfl) ⟨?_, ?_, ?_⟩⟩) (by rw [hsz]; omega) (by show (acc.push (Value.ref h.objs.size)).size ≤ sizeLine + 1; rw [Array.size_push, hsz]; omega)
    · refine List.pairwise_append.mpr ⟨hG.rise, List.pairwise_singleton _ _, fun a ha b hb => ?_⟩
      rw [List.mem_singleton.mp hb]
      exact hG.there ha
    · intro a ha
      rcases List.mem_append.mp ha with ha | ha
      · exact hG.above a ha
      · rw [List.mem_singleton.mp ha]; exact hSl
    · intro j b hj
      rcases Nat.lt_trichotomy j as.length with h1 | h1 | h1
      · rw [List.getElem?_append_left h1] at hj
        obtain ⟨x', y', e1, e2, e3⟩ := hG.pairs j b hj
        have hb := hG.above b (List.mem_of_getElem? hj)
        exact ⟨x', y', e1, e2, up b _ (Nat.ne_of_gt hb) (hkp b _ (Nat.ne_of_gt (Nat.lt_trans low.1 hb)) (Nat.ne_of_gt (Nat.lt_trans low.2.1 hb)) (Nat.ne_of_gt (Nat.lt_trans low.2.2.1 hb)) (Nat.ne_of_gt (Nat.lt_trans low.2.2.2 hb)) e3)⟩
      · subst h1
        have hb : h.objs.size = b := by simpa using hj
        subst hb
        exact ⟨x, y, by rw [hal]; exact ex, by rw [hal]; exact ey, up _ _ (Nat.ne_of_gt hSl) ht⟩
      · have hnone : (as ++ [h.objs.size])[j]? = none := List.getElem?_eq_none (by rw [List.length_append, List.length_singleton]; omega)
        rw [hnone] at hj; cases hj
theorem zl_extend {R : Result → Shared → Prop} (hh : A.handled = none) (D : ZipApart z TI TO i1 i2 l1 l2) (O : ZOff S z TI TO i1 i2 l1 l2) (low : z < S ∧ TO < S ∧ i1 < S ∧ i2 < S) (n : Nat) (hn : n = min xs.size ys.size) (hz : n ≤ sizeLine) (res : Value) (c₀ : Nat) (hS : s.heap.get? S = some { cls := .type "list", data := .seq #[] c₀ })
    (st : ZSt s.heap S z TI TO i1 i2 l1 l2 xs ys 0) (hzz : IsZip s.heap z TI TO .none)
    (hR : ∀ h' tk acc c as, (∀ b o, b ≠ S → b ≠ z → b ≠ TO → b ≠ i1 → b ≠ i2 → s.heap.get? b = some o → h'.get? b = some o) → h'.get? S = some { cls := .type "list", dict := none, data := .seq acc c, slots := #[] } → as.length = n → ZG xs ys S h' as →
      acc.toList = as.map Value.ref → R (.ok (.ret res)) { s with heap := h', toks := tk }) :
    wpAny (model prog w) A.in1 (Builtin.List.listExtendWith (.ref S) (.ref z) res)
      (fun fin s' => match fin with | .done f => R (.ok f) s' | .again c' => c'.quiet = true ∧ codeAny (model prog w) A c' R s') (fun e s' => R (.error e) s') s := by
  have hT : s.TypeIs (.ref z) "zip" := ⟨_, hzz, rfl⟩
  have key : ∀ (h : Heap) (c₁ tk : Nat), (∀ b o, b ≠ S → s.heap.get? b = some o → h.get? b = some o) → h.get? S = some { cls := .type "list", data := .seq #[] c₁ } →
      codeAny (model prog w) A (.builtin "list.extend.loop" ⟨[.ref S, .ref z, res], []⟩) R { s with heap := h, toks := tk } := by
    intro h c₁ tk hk hS₁
    exact zl_loop (s := s) (h₁ := s.heap) hh D O low n hn hz res hR n 0 h tk c₁ #[] [] (Nat.sub_zero _) (Nat.zero_le _) (st.keep O hk) (fun b o hb _ _ _ _ e => hk b o hb e) hS₁ rfl rfl
      ⟨List.Pairwise.nil, (fun _ ha => nomatch ha), (fun j a hj => by simp at hj)⟩
  unfold Builtin.List.listExtendWith
  refine wpAny_bind (wpAny_typeOf hT ?_)
  have h1 : Builtin.List.listSameRef (.ref S) (.ref z) = false := by simp [Builtin.List.listSameRef, O.z]
  have h2 : (Value.type "zip" == Value.type "list") = false := by decide
  have h3 : (Value.type "zip" == Value.type "tuple") = false := by decide
  simp only [h1, h2, h3, Bool.or_false, Bool.false_eq_true, if_false]
  refine wpAny_bind (wpAny_pyIter_zip hzz ?_)
  refine wpAny_bind (wpAny_holding ?_)
  unfold Builtin.List.listLengthHint
  refine wpAny_bind (wpAny_specialOf hT zip_no_len ?_)
  show wpAny _ A.in1 (specialOf (Value.ref z) (Str.ofString "__length_hint__") >>= _) _ _ _
  refine wpAny_bind (wpAny_specialOf hT zip_no_hint ?_)
  refine wpAny_pure ?_
  show wpAny _ A.in1 (rule "list.extend.makes-room" >>= fun _ => Builtin.List.listTouch (.ref S) >>= fun _ =>
    again (.builtin "list.extend.loop" ⟨[.ref S, .ref z, res], []⟩)) _ _ _
  refine wpAny_bind (wpAny_rule ?_)
  refine wpAny_bind ?_
  show wpAny _ A.in1 (updateSeq S (·.push .none) >>= fun _ => updateSeq S (·.pop)) _ _ _
  refine wpAny_bind (wpAny_updateSeq hS rfl ?_)
  have hS₂ := Heap.get?_update_self (Obj.mapSeq (·.push Value.none)) hS rfl
  refine wpAny_updateSeq (hz := by seq_fits) hS₂ rfl ?_
  have hS₃ := Heap.get?_update_self (Obj.mapSeq (·.pop)) hS₂ rfl
  refine wpAny_pure ⟨plainId_quiet PySem.F.plain_extend_loop _, key _ _ _ (fun b o hb e => ?_) hS₃⟩
  exact (Heap.get?_update_other _ _ (Ne.symm hb)).trans ((Heap.get?_update_other _ _ (Ne.symm hb)).trans e)
theorem zl_init {R : Result → Shared → Prop} (hh : A.handled = none) (D : ZipApart z TI TO i1 i2 l1 l2) (O : ZOff S z TI TO i1 i2 l1 l2) (low : z < S ∧ TO < S ∧ i1 < S ∧ i2 < S) (n : Nat) (hn : n = min xs.size ys.size) (hz : n ≤ sizeLine) (hS : s.heap.get? S = some { cls := .type "list", data := .seq #[] })
    (st : ZSt s.heap S z TI TO i1 i2 l1 l2 xs ys 0) (hzz : IsZip s.heap z TI TO .none)
    (hR : ∀ h' tk acc c as, (∀ b o, b ≠ S → b ≠ z → b ≠ TO → b ≠ i1 → b ≠ i2 → s.heap.get? b = some o → h'.get? b = some o) → h'.get? S = some { cls := .type "list", dict := none, data := .seq acc c, slots := #[] } → as.length = n → ZG xs ys S h' as →
      acc.toList = as.map Value.ref → R (.ok (.ret .none)) { s with heap := h', toks := tk }) :
    wpAny (model prog w) A.in1 (Builtin.«list.__init__» ⟨[.ref S, .ref z], []⟩)
      (fun fin s' => match fin with | .done f => R (.ok f) s' | .again c' => c'.quiet = true ∧ codeAny (model prog w) A c' R s') (fun e s' => R (.error e) s') s := by
  show wpAny _ _ (do let old ← Builtin.List.listItems (.ref S); Builtin.List.listUpdate (.ref S) (fun _ => #[]); letGo old.toList.reverse; Builtin.List.listExtendWith (.ref S) (.ref z) .none) _ _ s
  refine wpAny_bind ?_
  unfold Builtin.List.listItems
  refine wpAny_bind (wpAny_seqItems hS rfl (wpAny_pure ?_))
  show wpAny _ _ (updateSeq S (fun _ => #[]) >>= fun _ => letGo (#[] : Array Value).toList.reverse >>= fun _ => Builtin.List.listExtendWith (.ref S) (.ref z) .none) _ _ s
  refine wpAny_bind (wpAny_updateSeq hS rfl ?_)
  have hS₂ := Heap.get?_update_self (Obj.mapSeq (fun _ => (#[] : Array Value))) hS rfl
  have oth : ∀ b o, b ≠ S → s.heap.get? b = some o → (s.heap.update S (Obj.mapSeq (fun _ => (#[] : Array Value)))).get? b = some o :=
    fun b o hb e => (Heap.get?_update_other _ _ (Ne.symm hb)).trans e
  refine wpAny_bind (wpAny_letGo ?_)
  refine zl_extend hh D O low n hn hz .none _ hS₂ (st.keep O oth) (oth _ _ O.z.symm hzz) fun h' tk acc c as hk hS' hl hG hacc => ?_
  exact hR h' tk acc c as (fun b o hb b1 b2 b3 b4 e => hk b o hb b1 b2 b3 b4 (oth b o hb e)) hS' hl hG hacc
/-- list(z), z a zip of two lists that was just made -/
theorem call_list_zip {Q : Value → Shared → Prop} (hh : A.handled = none) (D : ZipApart z TI TO i1 i2 l1 l2) (n : Nat) (hn : n = min xs.size ys.size) (hz : n ≤ sizeLine)
    (hTI : IsPair s.heap TI (.ref i1) (.ref i2)) (h1 : s.heap.IsListIter i1 l1 0) (h2 : s.heap.IsListIter i2 l2 0) (hl1 : s.heap.IsList l1 xs) (hl2 : s.heap.IsList l2 ys) (hzz : IsZip s.heap z TI TO .none) (hTO : ∃ a b, IsPair s.heap TO a b)
    (hQ : ∀ h' tk acc c as, (∀ b o, b ≠ z → b ≠ TO → b ≠ i1 → b ≠ i2 → s.heap.get? b = some o → h'.get? b = some o) → h'.get? s.heap.objs.size = some { cls := .type "list", dict := none, data := .seq acc c, slots := #[] } → as.length = n → ZG xs ys s.heap.objs.size h' as →
      acc.toList = as.map Value.ref → Q (.ref s.heap.objs.size) { s with heap := h', toks := tk }) : wpAny (model prog w) A (call (.type "list") [.ref z]) Q E s := by
  refine callType_codes (Q₁ := fun obj s₁ => obj = .ref s.heap.objs.size ∧ s₁ = { s with heap := s.heap.push { cls := .type "list", data := .seq #[] } }) PySem.F.called_list (PySem.F.typeCall_list_1 _) PySem.F.entry_list_init
    (code_list_new _ ⟨rfl, rfl⟩) fun obj s₁ h₁ => ?_
  obtain ⟨rfl, rfl⟩ := h₁
  have hS : (s.heap.push { cls := .type "list", data := .seq #[] }).get? s.heap.objs.size = some { cls := .type "list", data := .seq #[] } := Heap.get?_push_size _ rfl
  have ltz : z < s.heap.objs.size := Heap.lt_size hzz
  have ltTI : TI < s.heap.objs.size := Heap.lt_size hTI
  have ltTO : TO < s.heap.objs.size := let ⟨_, _, e⟩ := hTO; Heap.lt_size e
  have lt1 : i1 < s.heap.objs.size := let ⟨_, e, _⟩ := h1; Heap.lt_size e
  have lt2 : i2 < s.heap.objs.size := let ⟨_, e, _⟩ := h2; Heap.lt_size e
  have lt3 : l1 < s.heap.objs.size := let ⟨_, e, _⟩ := hl1; Heap.lt_size e
  have lt4 : l2 < s.heap.objs.size := let ⟨_, e, _⟩ := hl2; Heap.lt_size e
  have O : ZOff s.heap.objs.size z TI TO i1 i2 l1 l2 := ⟨Nat.ne_of_gt ltz, Nat.ne_of_gt ltTI, Nat.ne_of_gt ltTO, Nat.ne_of_gt lt1, Nat.ne_of_gt lt2, Nat.ne_of_gt lt3, Nat.ne_of_gt lt4⟩
  have up : ∀ b o, s.heap.get? b = some o → (s.heap.push { cls := .type "list", data := .seq #[] }).get? b = some o := fun b o e => Heap.get?_push_of_some _ e
  have st : ZSt (s.heap.push { cls := .type "list", data := .seq #[] }) s.heap.objs.size z TI TO i1 i2 l1 l2 xs ys 0 :=
    ⟨up _ _ hTI, h1.at fun o e => up _ o e, h2.at fun o e => up _ o e, hl1.at fun o e => up _ o e, hl2.at fun o e => up _ o e, .inl ⟨up _ _ hzz, let ⟨a, b, e⟩ := hTO; ⟨a, b, up _ _ e⟩⟩⟩
  refine ⟨⟨_, hS, rfl⟩, PySem.F.args_list_init_2 _ _, zl_init hh D O ⟨ltz, ltTO, lt1, lt2⟩ n hn hz hS st (up _ _ hzz) fun h' tk acc c as hk hS' hl hG hacc => ?_⟩
  exact ⟨rfl, hQ h' tk acc c as (fun b o b1 b2 b3 b4 e => hk b o (Nat.ne_of_lt (Heap.lt_size e)) b1 b2 b3 b4 (up b o e)) hS' hl hG hacc⟩
end
end Pd
namespace Pd
open PySem PySem.Spec PyProof.Rows L2
/-- the tuples tracked at their addresses -/
def putP : Hp → List Addr → List (V × V) → Hp
  | H, a :: as, p :: r => putP (upd H a (.tup [p.1, p.2])) as r
  | H, _, _ => H
theorem putP_off {b : Addr} : ∀ (as : List Addr) (r : List (V × V)) (H : Hp), b ∉ as → putP H as r b = H b
  | [], _, _, _ => rfl
  | _ :: _, [], _, _ => rfl
  | a :: as, p :: r, H, h => by
    show putP (upd H a (.tup [p.1, p.2])) as r b = H b
    rw [putP_off as r _ (fun z => h (List.mem_cons_of_mem _ z)), upd_ne (fun z => h (by rw [z]; exact List.mem_cons_self))]
theorem putP_at : ∀ (as : List Addr) (r : List (V × V)) (H : Hp), as.length = r.length → as.Nodup → Paired (fun (t : Addr) (p : V × V) => putP H as r t = some (.tup [p.1, p.2])) as r
  | [], [], _, _, _ => .nil
  | [], _ :: _, _, h, _ => by cases h
  | _ :: _, [], _, h, _ => by cases h
  | a :: as, p :: r, H, h, hn => by
    have hn' := List.nodup_cons.mp hn
    have ih := putP_at as r (upd H a (.tup [p.1, p.2])) (Nat.succ.inj h) hn'.2
    refine .cons ?_ ih
    show putP (upd H a (.tup [p.1, p.2])) as r a = some (.tup [p.1, p.2])
    rw [putP_off as r _ hn'.1, upd_same]
theorem zip_laid {X : Cx} {pins : List (Addr × Obj)} {σ : L2.St} {H : Hp} {s : Shared} {h' : Heap} {tk : Nat} {S : Addr} {xs ys : List V} {us ws : List Value} {acc : Array Value} {c : Nat} {as : List Addr} (I : Inv X pins σ H s) (hz : (xs.zip ys).length ≤ sizeLine) (r1 : Vals xs us) (r2 : Vals ys ws)
    (hk : ∀ b o, s.heap.get? b = some o → h'.get? b = some o) (hSz : s.heap.objs.size ≤ S) (hS : h'.get? S = some { cls := .type "list", dict := none, data := .seq acc c, slots := #[] }) (hl : as.length = (xs.zip ys).length) (hG : ZG us.toArray ws.toArray S h' as) (hacc : acc.toList = as.map Value.ref) :
    ∃ H' : Hp, (∀ b o, H b = some o → H' b = some o) ∧ H S = none ∧ (∀ t ∈ as, H t = none) ∧ S ∉ as ∧ as.Nodup ∧ H' S = some (.lst (as.map V.ref)) ∧ Paired (fun (t : Addr) (q : V × V) => H' t = some (.tup [q.1, q.2])) as (xs.zip ys) ∧ Inv X pins σ H' { s with heap := h', toks := tk } := by
  have hSn : S ∉ as := fun z => Nat.lt_irrefl _ (hG.above _ z)
  have nd : as.Nodup := List.Pairwise.imp (fun {a b} (h : a < b) => Nat.ne_of_lt h) hG.rise
  have new : ∀ t ∈ as, H t = none := fun t ht => I.hok.fresh (Nat.le_of_lt (Nat.lt_of_le_of_lt hSz (hG.above t ht)))
  have newS : H S = none := I.hok.fresh hSz
  have atP := putP_at as (xs.zip ys) (upd H S (.lst (as.map V.ref))) hl nd
  have off : ∀ b, b ∉ as → b ≠ S → putP (upd H S (.lst (as.map V.ref))) as (xs.zip ys) b = H b := fun b h1 h2 => by rw [putP_off as _ _ h1, upd_ne h2]
  have low : ∀ b o, s.heap.get? b = some o → b ∉ as ∧ b ≠ S := fun b o e => ⟨fun z => absurd (Heap.lt_size e) (Nat.not_lt.mpr (Nat.le_of_lt (Nat.lt_of_le_of_lt hSz (hG.above b z)))), Nat.ne_of_lt (Nat.lt_of_lt_of_le (Heap.lt_size e) hSz)⟩
  have kp : ∀ b u, H b = some u → (putP (upd H S (.lst (as.map V.ref))) as (xs.zip ys)) b = some u := fun b u e => by
    rw [off b (fun z => by rw [new b z] at e; cases e) (fun z => by rw [z, newS] at e; cases e)]
    exact e
  have eS : putP (upd H S (.lst (as.map V.ref))) as (xs.zip ys) S = some (.lst (as.map V.ref)) := by rw [putP_off as _ _ hSn, upd_same]
  refine ⟨putP (upd H S (.lst (as.map V.ref))) as (xs.zip ys), kp, newS, new, hSn, nd, eS, atP, ?_⟩
  refine I.call' (ch := []) rfl ⟨fun b o q _ _ _ => hk b o q, fun b o q _ _ _ => ⟨o.slots, hk b o q⟩, fun b o q n _ => ?_, fun b o q _ => ⟨o, hk b o q⟩, fun b xs q => kp b _ q, fun b o u q => kp b _ q, fun b ps q => ⟨#[], by rw [kp b _ q]; simp⟩⟩ (fun b u q => ?_) I.bare fun b z => by simp at z
  · obtain ⟨z1, z2⟩ := low b o q
    rw [off b z1 z2]
    exact n
  · by_cases hb : b ∈ as
    · obtain ⟨j, pk, e1, e2, e3⟩ := LiI.paired_ix atP hb
      rw [e3] at q
      cases q
      obtain ⟨x, y, f1, f2, f3⟩ := hG.pairs j b e1
      rw [List.getElem?_zip_eq_some] at e2
      obtain ⟨u, g1, g2⟩ := r1.get e2.1
      obtain ⟨v, g3, g4⟩ := r2.get e2.2
      have ex : u = x := by
        rw [List.getElem?_toArray, g1] at f1
        exact Option.some.inj f1
      have ey : v = y := by
        rw [List.getElem?_toArray, g3] at f2
        exact Option.some.inj f2
      subst ex
      subst ey
      exact ⟨by show 2 ≤ sizeLine; decide, [u, v], .cons g2 (.cons g4 .nil), ⟨_, f3, rfl, _, rfl⟩⟩
    · by_cases hb2 : b = S
      · rw [hb2] at q ⊢
        rw [eS] at q
        cases q
        refine ⟨by rw [List.length_map, hl]; exact hz, acc.toList, c, by rw [hacc]; exact LiI.vals_refs as, ?_⟩
        rw [Array.toArray_toList]
        exact hS
      · rw [off b hb hb2] at q
        exact (I.hok b u q).stay (fun d v _ y => hk d v y) (fun d y => kp d _ y) fun d xs y => kp d _ y
def tListZip (K : PySem.W.Frag) (ta : TA) : TE := fun σ H Q => ta σ H fun vs H1 => ∃ a b xs ys, vs = [.ref a, .ref b] ∧ SqL K H1 a xs ∧ SqL K H1 b ys ∧
  ∀ (H' : Hp) (p : Addr) (ts : List Addr), (∀ b o, H1 b = some o → H' b = some o) → H1 p = none → (∀ t ∈ ts, H1 t = none) → p ∉ ts → ts.Nodup → H' p = some (.lst (ts.map V.ref)) → Paired (fun (t : Addr) (q : V × V) => H' t = some (.tup [q.1, q.2])) ts (xs.zip ys) → Q (.ref p) H'
/-- list(zip(e, e2)) -/
theorem pe_listZip {X : Cx} {e e2 : Expr} {ta : TA} {p p2 pos pos2 : Pos} (hc : X.calm = true) (hg : Gl X "list") (hm : X.mg "list" = none) (hgz : Gl X "zip") (hmz : X.mg "zip" = none) (ha : PA X [e, e2] ta)
    (hs : starEach [e, e2] X.env = (false, eval e X.env) :: starEach [e2] X.env) (hpl : (backTo pos2 (starEach [e2] X.env)).any (·.1) = false)
    (na : starEach [.Call (.Name "zip" p2) [e, e2] [] pos2] X.env = (false, eval (.Call (.Name "zip" p2) [e, e2] [] pos2) X.env) :: starEach [] X.env := by rfl) :
    PE X (.Call (.Name "list" p) [.Call (.Name "zip" p2) [e, e2] [] pos2] [] pos) (tListZip X.K ta) := by
  refine ⟨fun pins s σ H Q I h => ?_⟩
  refine Call_ (ld_blt I hg hm boot_list (PyProof.Rows.callWith_type1 (args_cons (thn (Q := fun x s' => ∃ s1 h' a b xs ys its its2 H1, x = .ref (s1.heap.objs.size + 4) ∧ s' = { s1 with heap := h' } ∧ Inv X pins σ H1 s1 ∧ Vals xs its ∧ Vals ys its2 ∧ xs.length ≤ sizeLine ∧ ys.length ≤ sizeLine ∧ s1.heap.IsList a its.toArray ∧ s1.heap.IsList b its2.toArray ∧ a < s1.heap.objs.size ∧ b < s1.heap.objs.size ∧
      IsZip h' (s1.heap.objs.size + 4) (s1.heap.objs.size + 2) (s1.heap.objs.size + 3) .none ∧ IsPair h' (s1.heap.objs.size + 2) (.ref s1.heap.objs.size) (.ref (s1.heap.objs.size + 1)) ∧ IsPair h' (s1.heap.objs.size + 3) .none .none ∧ h'.IsListIter s1.heap.objs.size a 0 ∧ h'.IsListIter (s1.heap.objs.size + 1) b 0 ∧ h'.objs.size = s1.heap.objs.size + 5 ∧ (∀ c o, s1.heap.get? c = some o → h'.get? c = some o) ∧
      (∀ (H' : Hp) (p : Addr) (ts : List Addr), (∀ b o, H1 b = some o → H' b = some o) → H1 p = none → (∀ t ∈ ts, H1 t = none) → p ∉ ts → ts.Nodup → H' p = some (.lst (ts.map V.ref)) → Paired (fun (t : Addr) (q : V × V) => H' t = some (.tup [q.1, q.2])) ts (xs.zip ys) → Q (.ref p) H')) ?_ fun x s' hx => args_nil ?_) na) na))
  · refine Call_ (ld_blt I hgz hmz PyProof.Rows.boot_zip (PyProof.Rows.callWith_type1 (thn (ha.run pos2 pins s σ H _ I h) fun us s1 ⟨vs, H1, I1, r1, q1⟩ => ?_) hs hpl))
    obtain ⟨a, b, xs, ys, ex, hqx, hqy, q⟩ := q1
    subst ex
    cases r1 with
    | cons r rr =>
      cases rr with
      | cons r' rr =>
        cases rr
        cases r
        cases r'
        obtain ⟨its, rv, p1, z1⟩ := I1.list hqx
        obtain ⟨its2, rv2, p2, z2⟩ := I1.list hqy
        exact call_zip_2 p1.isList p2.isList fun h' hz hTI hTO h1 h2 hsz hk => ⟨s1, h', a, b, xs, ys, its, its2, H1, rfl, rfl, I1, rv, rv2, z1, z2, p1.isList, p2.isList, p1.lt, p2.lt, hz, hTI, hTO, h1, h2, hsz, hk, q⟩
  · obtain ⟨s1, h', a, b, xs, ys, its, its2, H1, ex, es, I1, rv, rv2, z1, z2, l1, l2, la, lb, hz, hTI, hTO, h1, h2, hsz, hk, q⟩ := hx
    subst ex
    subst es
    have e1 := rv.length
    have e2' := rv2.length
    refine call_list_zip (s := { s1 with heap := h' }) (xs := its.toArray) (ys := its2.toArray) (I1.ok.hd hc) (PySem.W.ktu_apart s1.heap.objs.size a b la lb) (min its.length its2.length) (by simp) (by omega) hTI h1 h2 (l1.at fun o e => hk _ o e) (l2.at fun o e => hk _ o e) hz ⟨_, _, hTO⟩ fun h'' tk acc c as hk2 hS hl hG hacc => ?_
    have hk3 : ∀ b o, s1.heap.get? b = some o → h''.get? b = some o := fun b o e => by
      have lt := Heap.lt_size e
      exact hk2 b o (Nat.ne_of_lt (Nat.lt_of_lt_of_le lt (Nat.le_add_right _ _))) (Nat.ne_of_lt (Nat.lt_of_lt_of_le lt (Nat.le_add_right _ _))) (Nat.ne_of_lt lt) (Nat.ne_of_lt (Nat.lt_of_lt_of_le lt (Nat.le_add_right _ _))) (hk b o e)
    dsimp only at hS hG
    obtain ⟨H', k1, k2, k3, k4, k5, k6, k7, J⟩ := zip_laid (tk := tk) I1 (by rw [List.length_zip]; omega) rv rv2 hk3 (by omega) hS (by rw [hl, List.length_zip, e1, e2']) hG hacc
    exact ⟨.ref _, H', J, rfl, q H' _ as k1 k2 k3 k4 k5 k6 k7⟩
theorem paired_rp {K : PySem.W.Frag} {G H' : Hp} : ∀ {ts : List Addr} {xs ys : List V} {ds es : List PyData}, Paired (fun (t : Addr) (q : V × V) => H' t = some (.tup [q.1, q.2])) ts (xs.zip ys) → RpAll K G xs ds → RpAll K G ys es →
    (∀ t ∈ ts, G t = H' t) → RpAll K G (ts.map V.ref) (zipF ds es)
  | _, [], ys, _, es, h, .nil, r2, _ => by
    rw [List.zip_nil_left] at h
    cases h
    have e : zipF [] es = [] := by cases es <;> rfl
    rw [e]
    exact .nil
  | _, x :: xs, [], _, _, h, .cons _ _, .nil, _ => by
    rw [List.zip_nil_right] at h
    cases h
    exact .nil
  | _, x :: xs, y :: ys, _, _, h, .cons (d := d) (ds := ds) rx r1, .cons (d := e) (ds := es) ry r2, hg => by
    rw [List.zip_cons_cons] at h
    cases h with
    | cons h1 h2 =>
      refine .cons (.tup (xs := [x, y]) ((hg _ List.mem_cons_self).trans h1) (.cons rx (.cons ry .nil))) ?_
      exact paired_rp h2 r1 r2 fun t ht => hg t (List.mem_cons_of_mem _ ht)
theorem ok_zipL {K : PySem.W.Frag} {Γ : Tab} {a b : Ex} {ta tb : TE} (ha : TEok K ta (evE Γ a)) (hb : TEok K tb (evE Γ b)) : TEok K (tListZip K (tCons ta (tCons tb tNil))) (evE Γ (.zipL a b)) := by
  intro R G0 G H env σ tmp o env' Q S e q
  rw [evE] at e
  simp only [Option.bind_eq_some_iff] at e
  obtain ⟨⟨o1, e1⟩, h1, ⟨o2, e2⟩, h2, x, hx, y, hy, r, hr, e⟩ := e
  cases e
  unfold zipLD at hr
  split at hr
  · rename_i ds es
    cases hr
    refine ha _ _ _ _ _ _ _ _ _ _ S h1 fun v1 G1 H1 g1 S1 => ?_
    refine hb _ _ _ _ _ _ _ _ _ _ S1 h2 fun v2 G2 H2 g2 S2 => ?_
    obtain ⟨p2, ys, ev2, hp2, ry⟩ := S2.resL S2.top hy
    obtain ⟨p1, xs, ev1, hp1, rx⟩ := S2.resL (S2.tm _ (List.mem_cons_of_mem _ List.mem_cons_self)) hx
    have ev1 : v1 = .ref p1 := ev1
    subst ev1
    subst ev2
    refine ⟨p1, p2, xs, ys, rfl, SqL.of hp1, SqL.of hp2, fun H' p ts hk hp ht hpn hn hl hP => ?_⟩
    have Sq := S2.pop.pop
    have gk : Same G2 (fun c => if c ∈ ts then H' c else G2 c) := fun c ob z => by
      have : c ∉ ts := fun m => by
        have := Sq.gh c _ z
        rw [ht c m] at this
        cases this
      show (if c ∈ ts then H' c else G2 c) = _
      rw [if_neg this]
      exact z
    have gh : Same (fun c => if c ∈ ts then H' c else G2 c) H' := fun c ob z => by
      have z : (if c ∈ ts then H' c else G2 c) = some ob := z
      split at z
      · exact z
      · exact hk c _ (Sq.gh c _ z)
    have S3 := Sq.after (G' := fun c => if c ∈ ts then H' c else G2 c) (H' := H') gk (fun c hc => by
      by_cases m : c ∈ ts
      · exact .inr (ht c m)
      · refine .inl fun z => hc ?_
        show (if c ∈ ts then H' c else G2 c) = none
        rw [if_neg m]
        exact z) gh hk
    have rz : RpAll K (fun c => if c ∈ ts then H' c else G2 c) (ts.map V.ref) (zipF ds es) := paired_rp hP (RpAll.mono gk rx) (RpAll.mono gk ry) fun t m => if_pos m
    have S4 := S3.pushRv (r := .ow (zipF ds es)) (v := .ref p) (H0 := H2) ⟨p, ts.map V.ref, rfl, hp, (by
      show (if p ∈ ts then H' p else G2 p) = none
      rw [if_neg hpn]
      exact Sq.gh.free hp), hl, rz⟩ Sq.rh (fun i a' z => by
        obtain ⟨w, hw⟩ := Sq.ownH z
        rw [hw]
        simp) (fun a' z => by
        obtain ⟨w, hw⟩ := Sq.ownTH z
        rw [hw]
        simp)
    exact q _ _ _ ((g1.trans g2).trans gk) S4
  · cases hr
end Pd

/-! len(set(..)) of a tuple of whole numbers -/
namespace Pd
open PySem PySem.Spec PyProof.Rows L2
theorem nodup_erase : ∀ (n : Nat) (ns : List Int), ns.length ≤ n → ns.eraseDups.Nodup
  | _, [], _ => by simp
  | n + 1, a :: ns, h => by
    rw [List.eraseDups_cons]
    have hl : (ns.filter fun b => !b == a).length ≤ n := by
      have := List.length_filter_le (fun b => !b == a) ns
      rw [List.length_cons] at h
      omega
    refine List.nodup_cons.mpr ⟨fun z => ?_, nodup_erase n _ hl⟩
    rw [List.mem_eraseDups, List.mem_filter] at z
    simp at z
theorem nodup_len {xs ys : List Int} (h1 : xs.Nodup) (h2 : ys.Nodup) (h : ∀ k, k ∈ xs ↔ k ∈ ys) : xs.length = ys.length := by
  have gen : ∀ {xs ys : List Int}, xs.Nodup → (∀ k, k ∈ xs → k ∈ ys) → xs.length ≤ ys.length := by
    intro xs
    induction xs with
    | nil => intro ys _ _; exact Nat.zero_le _
    | cons x xs ih =>
      intro ys hn hs
      obtain ⟨a, b⟩ := List.nodup_cons.mp hn
      have hx := hs x List.mem_cons_self
      have z := ih (ys := ys.erase x) b fun k hk => by
        have hne : k ≠ x := fun e => a (by rw [← e]; exact hk)
        exact (List.mem_erase_of_ne hne).mpr (hs k (List.mem_cons_of_mem _ hk))
      rw [List.length_erase_of_mem hx] at z
      have := List.length_pos_of_mem hx
      rw [List.length_cons]
      omega
  exact Nat.le_antisymm (gen h1 fun k => (h k).mp) (gen h2 fun k => (h k).mpr)
def tLenSetU (K : PySem.W.Frag) (ta : TE) : TE := fun σ H Q => ta σ H fun x H1 => ∃ (l : Addr) (ns : List Int), x = .ref l ∧ SqT K H1 l (ns.map V.int) ∧ ns.length ≤ 4000 ∧ Q (.int (ns.eraseDups.length : Nat)) H1
theorem pe_lenSetU {X : Cx} {a : Expr} {ta : TE} {p p2 q pos : Pos} (hg : Gl X "len") (hm : X.mg "len" = none) (hg2 : Gl X "set") (hm2 : X.mg "set" = none) (ha : PE X a ta) (hc : X.calm = true)
    (na : starEach [a] X.env = (false, eval a X.env) :: starEach [] X.env) : PE X (.Call (.Name "len" p) [.Call (.Name "set" p2) [a] [] q] [] pos) (tLenSetU X.K ta) := by
  refine ⟨fun pins s σ H Q I h => ?_⟩
  refine Call_ (ld_blt I hg hm boot_len ?_)
  refine PyProof.Rows.callWith_builtin1 (PyProof.Rows.args_cons ?_ rfl) rfl rfl
  refine Call_ (ld_blt I hg2 hm2 boot_set ?_)
  refine PyProof.Rows.callWith_type1 (PyProof.Rows.args_cons (thn (ha.run pins s σ H _ I h) fun v s1 ⟨x, H1, I1, r1, q1⟩ => PyProof.Rows.args_nil ?_) na) na rfl
  obtain ⟨l, ns, rfl, hq, hl, q1⟩ := q1
  cases r1
  obtain ⟨its, r, pl, hz⟩ := I1.tuple hq
  refine call_set_tupI ns (I1.ok.hd hc) (show s1.heap.IsTuple l its.toArray from pl) (by simpa using RZ.intsAre_vals r) (by unfold scanBound; omega) fun h' tk c hS hcn hk => ?_
  refine PyProof.Rows.args_nil ?_
  obtain ⟨o, es, ep, t, ho, hex, hd, _, hnd, hmem, _, hf, hn, _⟩ := hS
  have I2 : Inv X pins σ H1 { s1 with heap := h', toks := tk } := I1.kept fun b o e => hk b o e
  have hlen : es.size = ns.eraseDups.length := by
    have z := nodup_len hnd (nodup_erase _ ns (Nat.le_refl _)) fun k => by
      rw [← hmem, List.mem_eraseDups]
      exact decide_eq_true_iff
    rw [← z, List.length_map, Array.length_toList]
  exact call_len_set ho hex hd hf (by omega) ⟨.int (ns.eraseDups.length : Nat), H1, I2.tok _, ⟨_, by rw [hlen]⟩, q1⟩
theorem ok_lenSet {K : PySem.W.Frag} {Γ : Tab} {a : Ex} {ta : TE} (ha : TEok K ta (evE Γ a)) : TEok K (tLenSetU K ta) (evE Γ (.lenSet a)) := by
  intro R G0 G H env σ tmp o env' Q S e q
  rw [evE] at e
  simp only [Option.bind_eq_some_iff] at e
  obtain ⟨⟨o1, e1⟩, h1, x, hx, r, hr, e⟩ := e
  cases e
  unfold lenSetD at hr
  split at hr
  · rename_i ds
    rw [Option.bind_eq_some_iff] at hr
    obtain ⟨ns, hns, hr⟩ := hr
    split at hr
    · rename_i hl
      cases hr
      refine ha _ _ _ _ _ _ _ _ _ _ S h1 fun v1 G1 H1 g1 S1 => ?_
      have rv := S1.res S1.top hx
      obtain ⟨p, xs, ev, hp, rx⟩ := rv.tupI
      subst ev
      have hds := allInts_eq hns
      subst hds
      rw [rx.ints] at hp
      exact ⟨p, ns, rfl, SqT.of hp, hl, q _ G1 H1 g1 (S1.pop.pushVa (.int _))⟩
    · cases hr
  · cases hr
end Pd

/-! a list of one's own, numbered and walked, that stays one's own -/
namespace Pd
open PySem PySem.Spec PyProof.Rows L2
theorem wipe1_off {k : Nat} : ∀ {own : List Nat} {env : EnvD}, k ∉ own → (wipe1 env own)[k]? = env[k]?
  | [], _, _ => rfl
  | i :: r, env, h => by
    show ((wipe1 env r).set i .no)[k]? = _
    rw [List.getElem?_set_ne (fun e => h (by rw [← e]; exact List.mem_cons_self)), wipe1_off fun z => h (List.mem_cons_of_mem _ z)]
section
variable {K : PySem.W.Frag} {Γ : Tab}
theorem ok_lcO {k : Nat} {ta : TE} {g : TG} {tt : TT} {te : TE} {ix own : List Nat} {ft : PyData → EnvD → Option EnvD} {fc : EnvD → Option (Bool × EnvD)} {fe : EnvD → Option (Opd × EnvD)}
    (hv : TEok K ta (evE Γ (.var k))) (hg : TGok K g ix ft) (hix : ∀ i ∈ ix, i ∈ own) (ht : TTok K tt fc) (he : TEok K te fe) :
    TEok K (tLc (iEnum K (tCons ta tNil)) g tt te own) (fun env => match env[k]? with
      | some (.ow ds) => if ds.length < 16777216 ∧ k ∉ own then (compLP (wipe1 env own) ft fc (fun e => (fe e).bind fun r => Pd.frz r.2 r.1) own (enumF 0 ds)).bind fun out => (back env own (wipe1 env own)).bind fun e => some (.ow out, e) else none
      | _ => none) := by
  intro R G0 G H env σ tmp o env' Q S e q
  dsimp only at e
  split at e
  · rename_i ds hk
    split at e
    case isFalse => cases e
    rename_i hc0
    obtain ⟨hlen, hko⟩ := hc0
    simp only [Option.bind_eq_some_iff] at e
    obtain ⟨out, h2, env3, h3, e⟩ := e
    cases e
    have e0 : evE Γ (.var k) env = some (.sl k, env) := by rw [evE, hk]
    refine hv _ _ _ _ _ _ _ _ _ _ S e0 fun v G1 H1 g1 S0 => ?_
    have hvv : σ[k]? = some (some v) := S0.tm (.sl k, v) List.mem_cons_self
    have S1 := S0.pop
    obtain ⟨a, xs, ea, hx, rx⟩ := S1.slot k _ hk
    rw [hvv] at ea
    have ea : v = .ref a := by injection ea with z; injection z
    subst ea
    refine ⟨a, xs, rfl, SqL.of hx, fun D hD => ?_⟩
    have hsl : ∀ q ∈ tmp, ∀ i, q.1 = .sl i → σ[i]? = some (some q.2) := fun q hq i e => by
      have := S1.tm q hq
      rw [e] at this
      exact this
    have nS : NoSl (unsl tmp) := unsl_no tmp
    have nS1 : ∀ {es : List PyData}, NoSl ((.ow es, .ref D) :: unsl tmp) := fun p hp i e => by
      rcases List.mem_cons.mp hp with z | z
      · rw [z] at e
        cases e
      · exact nS p z i e
    have hW : (wipe1 env own)[k]? = some (.ow ds) := (wipe1_off hko).trans hk
    have hσ : (L2.wipe σ own)[k]? = some (some (.ref a)) := by rw [wipe_get, if_neg hko, hvv]
    refine ⟨fun i m H => m = ds.length - i ∧ i ≤ ds.length ∧ ∃ G' done out', Same G1 G' ∧ SR K R G0 G' H (wipe1 env own) (L2.wipe σ own) ((.ow done, .ref D) :: unsl tmp) ∧ compLP (wipe1 env own) ft fc (fun e => (fe e).bind fun r => Pd.frz r.2 r.1) own ((enumF 0 ds).drop i) = some out' ∧ done ++ out' = out ∧ done.length ≤ i,
      ⟨ds.length, rfl, Nat.zero_le _, G1, [], out, Same.refl _, (S1.unsl.newL hD .nil).wipe nS1, by rw [List.drop_zero]; exact h2, rfl, Nat.le_refl _⟩, ?_⟩
    rintro i m H2 ⟨rfl, hi, G2, done, out', g2, S2, hc, ho, hd⟩
    obtain ⟨a2, xs2, ea2, hx2, rx2⟩ := S2.slot k _ hW
    rw [hσ] at ea2
    have ea2 : a = a2 := by injection ea2 with z; injection z with z; injection z
    subst ea2
    by_cases hlt : i < ds.length
    · have hlt2 : i < xs2.length := by rw [rx2.len]; exact hlt
      refine .inr ⟨⟨xs2, xs2[i], SqL.of hx2, by simp⟩, fun H => i + 1 ≤ ds.length ∧ ∃ G' done out', Same G1 G' ∧ SR K R G0 G' H (wipe1 env own) (L2.wipe σ own) ((.ow done, .ref D) :: unsl tmp) ∧ compLP (wipe1 env own) ft fc (fun e => (fe e).bind fun r => Pd.frz r.2 r.1) own ((enumF 0 ds).drop (i + 1)) = some out' ∧ done ++ out' = out ∧ done.length ≤ i + 1,
        fun H' z => ⟨ds.length - (i + 1), by omega, rfl, z⟩, fun x H' y => ?_⟩
      have hgi : (enumF 0 ds)[i]? = some (.tuple [.int ((0 + i : Nat) : Int), ds[i]]) := by
        rw [enumF_get, List.getElem?_eq_getElem hlt]
        rfl
      have hlE : i < (enumF 0 ds).length := by rw [enumF_len]; exact hlt
      have hgi2 : (enumF 0 ds)[i] = .tuple [.int ((0 + i : Nat) : Int), ds[i]] := by
        rw [List.getElem?_eq_getElem hlE] at hgi
        exact Option.some.inj hgi
      have hdr : (enumF 0 ds).drop i = (.tuple [.int ((0 + i : Nat) : Int), ds[i]]) :: (enumF 0 ds).drop (i + 1) := by
        rw [List.drop_eq_getElem_cons hlE, hgi2]
      rw [hdr] at hc
      unfold compLP at hc
      simp only [Option.bind_eq_some_iff] at hc
      obtain ⟨ea, ha, ⟨b, eb⟩, hb, hc⟩ := hc
      obtain ⟨T, u, e1, e2, e3, y⟩ := y
      have hu := y xs2 (SqL.of hx2)
      obtain ⟨u2, hu2, ru⟩ := rx2.get (List.getElem?_eq_getElem hlt)
      rw [hu] at hu2
      have hu2 : u = u2 := Option.some.inj hu2
      subst hu2
      subst e1
      subst e3
      have e5 : ((i : Nat) : Int) = ((0 + i : Nat) : Int) := by omega
      rw [e5]
      obtain ⟨S3', g3⟩ := S2.newT (p := T) e2 (xs := [.int ((0 + i : Nat) : Int), u]) (ds := [.int ((0 + i : Nat) : Int), ds[i]]) (.cons (.int _) (.cons ru .nil))
      have r3 := S3'.top
      have S3 := S3'.pop
      refine hg _ _ _ _ _ _ _ _ _ _ _ S3 nS1 r3 ha fun σ4 G4 H4 g4 w4 S4 => ⟨by rw [w4.2 own hix, wipe_idem], ?_⟩
      have w4' : L2.wipe σ4 own = L2.wipe σ own := by rw [w4.2 own hix, wipe_idem]
      refine ht _ _ _ _ _ _ _ _ _ _ S4 hb fun G5 H5 g5 S5 => ?_
      have g15 : Same G1 G5 := g2.trans (g3.trans (g4.trans g5))
      cases b with
      | false =>
        dsimp only at hc
        split at hc
        case isFalse => cases hc
        rename_i hse
        refine ⟨by omega, G5, done, out', g15, ?_, hc, ho, by omega⟩
        have := S5.wipe (own := own) nS1
        rw [w4', sameEnv_eq hse] at this
        exact this
      | true =>
        simp only [Option.bind_eq_some_iff] at hc
        obtain ⟨⟨d6, e6⟩, ⟨⟨o6, e7⟩, he7, hf⟩, hc⟩ := hc
        split at hc
        case isFalse => cases hc
        rename_i hse
        simp only [Option.bind_eq_some_iff] at hc
        obtain ⟨z1, hz, hc⟩ := hc
        cases hc
        refine he _ _ _ _ _ _ _ _ _ _ S5 he7 fun yv G7 H7 g7 S7 => ?_
        obtain ⟨G8, g8, S8, r8⟩ := S7.frz hf
        have S9 := S8
        obtain ⟨D', acc, eD, hacc, racc⟩ := S9.top
        cases eD
        refine ⟨acc, hacc, by
          have : acc.length = done.length := racc.len
          have z : sizeLine = 16777216 := rfl
          omega, ?_⟩
        refine ⟨by omega, G8, done ++ [d6], z1, g15.trans (g7.trans g8), ?_, hz, by rw [List.append_assoc]; exact ho, by rw [List.length_append]; show _ + 1 ≤ _; omega⟩
        have S10 := (S9.writeT (racc.app (.cons r8 .nil))).wipe (own := own) nS1
        rw [w4'] at S10
        have e9 : wipe1 e6 own = wipe1 env own := sameEnv_eq hse
        rw [e9] at S10
        exact S10
    · have hi' : (enumF 0 ds).drop i = [] := List.drop_eq_nil_of_le (by rw [enumF_len]; omega)
      rw [hi'] at hc
      cases hc
      refine .inl ⟨⟨xs2, SqL.of hx2, by rw [rx2.len]; omega⟩, ?_⟩
      rw [List.append_nil] at ho
      subst ho
      have S3 := S2.unwipe S1 g2 nS1 h3
      exact q _ _ _ (g1.trans g2) (S3.resl (t' := [(.ow done, .ref D)]) hsl)
  · cases e
end
end Pd

/-! the reading is right: expressions, one by one -/
namespace Pd
open PySem PySem.Spec PyProof.Rows L2

/-- built-in names that the module does not bind -/
def bNames : List Str := ["len", "sum", "max", "min", "abs", "int", "list", "tuple", "all", "any", "sorted", "divmod", "repr", "isinstance", "bool", "str", "dict", "range", "enumerate", "zip", "set"]
/-- what the module's names are -/
structure GO (P : Program) (w : World) (K : PySem.W.Frag) (mg : Str → Option Value) (base : Heap) (c : CC) (Γ : Tab) (lv : Nat) : Prop where
  bi : ∀ x ∈ bNames, mg x = none
  fns : ∀ x k g, fnAt x c.fns 0 = some (k, g) → ∃ sig f fd, Γ k = some sig ∧ mg x = some (.ref f) ∧ PySem.W.keepIn K (.ref f) = true ∧ FnD P w K mg base lv f fd g.ps (spD K sig) ∧ ∀ m ks pm, shapeAt m ks g.shapes = some pm → BindsD K fd g.ps m ks pm
  glb : ∀ x d, c.glb.lookup x = some d → ∃ v u, mg x = some u ∧ RelV v u ∧ ∀ G, Rp K G v d
/-- a frame that is read by c -/
structure XO (P : Program) (w : World) (K : PySem.W.Frag) (mg : Str → Option Value) (base : Heap) (Γ : Tab) (lv : Nat) (c : CC) (X : Cx) : Prop where
  hP : X.prog = P
  hw : X.w = w
  hK : X.K = K
  hm : X.mg = mg
  hb : X.base = base
  N : X.N = c.N
  nd : c.N.Nodup
  sc : X.env.scope = c.sc
  calm : X.calm = true
  guards : X.A.guards = some []
  room : Room lv X.A
  xe : X.xe = fun _ _ => False
  cell : ∀ y, c.sc.names.lookup y = some .cell → c.ck.contains y = true → X.fn y = true
  go : GO P w K mg base c Γ lv

section
variable {P : Program} {w : World} {K : PySem.W.Frag} {mg : Str → Option Value} {base : Heap} {Γ : Tab} {lv : Nat} {c : CC} {X : Cx}
theorem XO.bi (O : XO P w K mg base Γ lv c X) {x : Str} (h : x ∈ bNames) : X.mg x = none := by
  rw [O.hm]
  exact O.go.bi x h
theorem XO.units (O : XO P w K mg base Γ lv c X) : X.A.units + 150 < cLine := by
  have := O.room
  obtain ⟨_, h⟩ := this
  omega
theorem okNm_ne {x : Str} (h : okNm x = true) : (x == ("__debug__" : Str)) = false ∧ (x == ("__classdict__" : Str)) = false := by
  unfold okNm at h
  simpa using h
theorem XO.gl (O : XO P w K mg base Γ lv c X) {x : Str} (h : isGl c x = true) : Gl X x := by
  unfold isGl at h
  rw [Bool.and_eq_true] at h
  show X.env.scope.names.lookup x = _
  rw [O.sc]
  have h := h.1
  split at h
  · assumption
  · cases h
theorem isGl_nm {x : Str} (h : isGl c x = true) : (x == ("__debug__" : Str)) = false := by
  unfold isGl at h
  rw [Bool.and_eq_true] at h
  exact (okNm_ne h.2).1
theorem slot_at {x : Str} {i : Nat} (h : slot c x = some i) : c.N[i]? = some x ∧ Vis c.sc x ∧ okNm x = true := by
  have ix : ∀ {i}, c.N.idxOf? x = some i → c.N[i]? = some x := fun {i} e => by
    unfold List.idxOf? at e
    rw [List.findIdx?_eq_some_iff_getElem] at e
    obtain ⟨h1, h2, _⟩ := e
    rw [List.getElem?_eq_getElem h1]
    exact congrArg some (by simpa using h2)
  unfold slot at h
  split at h
  · rename_i e
    split at h
    · rename_i ok
      exact ⟨ix h, .inl e, ok⟩
    · cases h
  · rename_i e
    split at h
    · rename_i ok
      exact ⟨ix h, .inr (.inl e), ok⟩
    · cases h
  · rename_i e
    split at h
    · rename_i ok
      exact ⟨ix h, .inr (.inr e), ok⟩
    · cases h
  · cases h
theorem slotS_at {x : Str} {i : Nat} (h : slotS c x = some i) : c.N[i]? = some x ∧ (c.sc.names.lookup x = some .local ∨ (c.sc.names.lookup x = some .cell ∧ c.ck.contains x = true)) := by
  have ix : ∀ {i}, c.N.idxOf? x = some i → c.N[i]? = some x := fun {i} e => by
    unfold List.idxOf? at e
    rw [List.findIdx?_eq_some_iff_getElem] at e
    obtain ⟨h1, h2, _⟩ := e
    rw [List.getElem?_eq_getElem h1]
    exact congrArg some (by simpa using h2)
  unfold slotS at h
  split at h
  · rename_i e
    exact ⟨ix h, .inl e⟩
  · rename_i e
    split at h
    · rename_i ok
      exact ⟨ix h, .inr ⟨e, ok⟩⟩
    · cases h
  · cases h
theorem XO.var (O : XO P w K mg base Γ lv c X) {x : Str} {i : Nat} {pos : Pos} (h : slot c x = some i) : PE X (.Name x pos) (tVar i) := by
  obtain ⟨h1, h2, h3⟩ := slot_at h
  exact pe_var (by rw [O.N]; exact h1) (by rw [O.sc]; exact h2) (okNm_ne h3).1 (okNm_ne h3).2
theorem XO.tg (O : XO P w K mg base Γ lv c X) {x : Str} {i : Nat} {pos : Pos} (h : slotS c x = some i) : PG X (.Name x pos) (gName i) := by
  obtain ⟨h1, h2⟩ := slotS_at h
  refine pg_name (by rw [O.N]; exact O.nd) (by rw [O.N]; exact h1) ?_ ?_
  · show X.env.scope.names.lookup x = _ ∨ X.env.scope.names.lookup x = _
    rw [O.sc]
    rcases h2 with z | z
    · exact .inl z
    · exact .inr z.1
  · rw [O.sc]
    rcases h2 with z | z
    · exact .inr z
    · exact .inl (O.cell x z.1 z.2)
/-- the operations -/
def rBin (K : PySem.W.Frag) : Bop → R2
  | .add => rAddD K
  | .sub => rI0 fun i j => .int (i - j)
  | .mul => rMulD
  | .fdiv => rI CDivW fun i j => .int (i / j)
  | .md => rI (fun _ j => 0 < j) fun i j => .int (i % j)
  | .pow => rI CPow fun i j => .int (i ^ j.toNat)
theorem ok_bin (o : Bop) : OpOk K (rBin K o) (binD o) := by
  cases o
  · exact ok_add
  · exact ok_sub
  · exact ok_mul
  · exact ok_fdiv
  · exact ok_md
  · exact ok_pow
theorem pe_bin {a b : Expr} {ta tb : TE} {pos : Pos} {op : Operator} {o : Bop} (h : bopOf op = some o) (ha : PE X a ta) (hb : PE X b tb) : PE X (.BinOp a op b pos) (tOp (rBin X.K o) ta tb) := by
  cases op <;> first | contradiction | skip
  · cases h
    exact pe_op op_addD ha hb
  · cases h
    exact pe_op op_sub ha hb
  · cases h
    exact pe_op op_mulD ha hb
  · cases h
    exact pe_op op_mod ha hb
  · cases h
    exact pe_op op_pow ha hb
  · cases h
    exact pe_op op_fdivW ha hb
theorem copOf_nb {op : CmpOp} {o : Cop} (h : copOf op = some o) (b : Expr) : behindInMarks op b = false := by
  cases op <;> first | contradiction | exact nomark b
theorem copOf_lm {op op' : CmpOp} {o' : Cop} (h : copOf op' = some o') (b c : Expr) : lastMarks [op, op'] [b, c] = false := by
  show behindInMarks op' c = false
  exact copOf_nb h c
theorem star_eq (env : Env) {e : Expr} (h : plainArgs [e] = true) : starEach [e] env = (false, eval e env) :: starEach [] env := star_cons env h
theorem plainIx_of {b : Expr} (h : ∀ l u s p, b ≠ .Slice l u s p) : PlainIx b := by
  intro o i
  cases b <;> first | rfl | exact absurd rfl (h _ _ _ _)
/-- a test that is not and, or, not, a comparison, a choice -/
def plainT : Expr → Bool
  | .UnaryOp .Not _ _ => false
  | .BoolOp _ _ _ => false
  | .IfExp _ _ _ _ => false
  | .Compare _ _ _ _ => false
  | _ => true
theorem pt_plain {e : Expr} {t : TE} (h : PE X e t) (hp : plainT e = true) : PT X e (tB t) := by
  refine pt_val h fun wh => ?_
  cases e with
  | UnaryOp op a p => cases op <;> first | rfl | cases hp
  | _ => first | rfl | cases hp
def tIfT (t ta tb : TT) : TT := fun σ H Q => t σ H fun c H1 => if c = true then ta σ H1 Q else tb σ H1 Q
theorem pt_ifExp {a b d : Expr} {ta tb td : TT} {pos : Pos} (hd : PT X d td) (ha : PT X a ta) (hb : PT X b tb) : PT X (.IfExp d a b pos) (tIfT td ta tb) := by
  refine ⟨fun pins s σ H Q I h => ?_⟩
  show wpAny _ _ (isTrue d X.env (eval d X.env) >>= fun k => if k = true then isTrue a X.env (eval a X.env) else isTrue b X.env (eval b X.env)) _ _ s
  refine wpAny_bind (thn (hd.run pins s σ H _ I h) fun k s1 ⟨H1, I1, q1⟩ => ?_)
  cases k with
  | true => exact ha.run pins s1 σ H1 Q I1 q1
  | false => exact hb.run pins s1 σ H1 Q I1 q1
theorem ok_ifT {td ta tb : TT} {fd fa fb : EnvD → Option (Opd × EnvD)} (hd : TTok K td (fT fd)) (ha : TTok K ta (fT fa)) (hb : TTok K tb (fT fb)) : TTok K (tIfT td ta tb) (fT fun env => (fd env).bind fun p => (truth p.1).bind fun t => match t with
    | true => fa p.2
    | false => fb p.2) := by
  intro R G0 G H env σ tmp b env' Q S e q
  unfold fT at e
  simp only [Option.bind_eq_some_iff] at e
  obtain ⟨⟨o2, e2⟩, ⟨⟨o1, e1⟩, h1, t, ht, h2⟩, k, hk, e⟩ := e
  cases e
  have z1 : fT fd env = some (t, e1) := by
    unfold fT
    simp only [Option.bind_eq_some_iff]
    exact ⟨_, h1, t, ht, rfl⟩
  refine hd _ _ _ _ _ _ _ _ _ _ S z1 fun G1 H1 g1 S1 => ?_
  cases t with
  | true =>
    have z2 : fT fa e1 = some (b, e2) := by
      unfold fT
      simp only [Option.bind_eq_some_iff]
      exact ⟨_, h2, b, hk, rfl⟩
    exact ha _ _ _ _ _ _ _ _ _ _ S1 z2 fun G2 H2 g2 S2 => q G2 H2 (g1.trans g2) S2
  | false =>
    have z2 : fT fb e1 = some (b, e2) := by
      unfold fT
      simp only [Option.bind_eq_some_iff]
      exact ⟨_, h2, b, hk, rfl⟩
    exact hb _ _ _ _ _ _ _ _ _ _ S1 z2 fun G2 H2 g2 S2 => q G2 H2 (g1.trans g2) S2
end
end Pd

/-! the reading is right: the induction over expressions -/
namespace Pd
open PySem PySem.Spec PyProof.Rows L2

section
variable (P : Program) (w : World) (K : PySem.W.Frag) (mg : Str → Option Value) (base : Heap) (Γ : Tab) (lv : Nat)
def EOk (c : CC) (e : Expr) (ir : Ex) : Prop :=
  (∃ t, TEok K t (evE Γ ir) ∧ ∀ X, XO P w K mg base Γ lv c X → PE X e t) ∧ ∃ t, TTok K t (fT (evE Γ ir)) ∧ ∀ X, XO P w K mg base Γ lv c X → PT X e t
def BOk (c : CC) (e : Expr) (ir : Ex) : Prop :=
  (∃ t, TEok K t (evE Γ ir) ∧ ∀ X, XO P w K mg base Γ lv c X → PE X e t) ∧ ∃ t, TTok K t (fT (evE Γ ir)) ∧ ∀ X, XO P w K mg base Γ lv c X → PW X e t
def VOk (c : CC) (e : Expr) (ir : Ex) : Prop := ∃ t, TEok K t (evE Γ ir) ∧ ∀ X, XO P w K mg base Γ lv c X → PE X e t
def AOk (c : CC) (es : List Expr) (irs : Exs) : Prop :=
  ∃ t, TAok K t (evEs Γ irs) ∧ (∀ X, XO P w K mg base Γ lv c X → (plainArgs es = true → PA X es t) ∧ ∀ kws, kwVals kws = es → PK X kws t) ∧ (∀ env p, evEs Γ irs env = some p → p.1.length = es.length) ∧ (es = [] → t = tNil)
/-- the tests of a clause -/
def TsOk (c : CC) (es : List Expr) (irs : Exs) : Prop :=
  es.length ≤ 1 → ∃ t, TTok K t (evAll Γ irs) ∧ ∀ X, XO P w K mg base Γ lv c X → PTs X es t
def OOk (c : CC) (e : Option Expr) (ir : Eo) : Prop := ∃ t, TOok K t (evO Γ ir) ∧ ∀ X, XO P w K mg base Γ lv c X → PO X e t
def SOk (c : CC) (e tg : Expr) (ir : Src) : Prop := ∃ t, TIok K t (evS Γ ir) ∧ ∀ X, XO P w K mg base Γ lv c X → PI X tg e t
def GOk (c : CC) (e : Expr) (ir : Tg) : Prop := ∃ t, TGok K t (tgIx ir) (asgT Γ ir) ∧ ∀ X, XO P w K mg base Γ lv c X → PG X e t
def GsOk (c : CC) (es : List Expr) (irs : Tgs) : Prop :=
  ∃ t, TGsok K t (tgIxs irs) (asgTs Γ irs) ∧ (∀ X, XO P w K mg base Γ lv c X → plainArgs es = true → PGs X es t) ∧ ∀ ds e e', asgTs Γ irs ds e = some e' → ds.length = es.length
end

section
variable {P : Program} {w : World} {K : PySem.W.Frag} {mg : Str → Option Value} {base : Heap} {Γ : Tab} {lv : Nat} {c : CC}
theorem VOk.e {e : Expr} {ir : Ex} (h : VOk P w K mg base Γ lv c e ir) (hp : plainT e = true) : EOk P w K mg base Γ lv c e ir := by
  obtain ⟨t, h1, h2⟩ := h
  exact ⟨⟨t, h1, h2⟩, tB t, ok_test h1, fun X O => pt_plain (h2 X O) hp⟩
theorem ok_withFz {b : Bool} {t : TE} {x : Ex} (h : TEok K t (evE Γ x)) : TEok K t (evE Γ (withFz b x)) := by
  cases b with
  | false => exact h
  | true =>
    have z := ok_fz h
    intro R G0 G H env σ tmp o env' Q S e q
    refine z _ _ _ _ _ _ _ _ _ _ S ?_ q
    have e : evE Γ (.fz x) env = some (o, env') := e
    rw [evE] at e
    exact e
theorem ok_withFzT {b : Bool} {t : TT} {x : Ex} (h : TTok K t (fT (evE Γ x))) : TTok K t (fT (evE Γ (withFz b x))) := by
  cases b with
  | false => exact h
  | true =>
    intro R G0 G H env σ tmp o env' Q S e q
    refine h _ _ _ _ _ _ _ _ _ _ S ?_ q
    have e : fT (evE Γ (.fz x)) env = some (o, env') := e
    unfold fT at e ⊢
    simp only [Option.bind_eq_some_iff] at e
    obtain ⟨⟨o1, e1⟩, h1, t, ht, e⟩ := e
    cases e
    rw [evE] at h1
    simp only [Option.bind_eq_some_iff] at h1
    obtain ⟨⟨o2, e2⟩, h2, ⟨d, e3⟩, h3, h4⟩ := h1
    cases h4
    rw [h2]
    cases o2 with
    | va d' =>
      cases h3
      show (truth _).bind _ = _
      rw [ht]
      rfl
    | ow ds =>
      cases h3
      cases ht
    | sl i =>
      unfold fzO at h3
      dsimp only at h3
      split at h3
      · cases h3
        cases ht
      · cases h3
theorem EOk.fz {b : Bool} {e : Expr} {x : Ex} (h : EOk P w K mg base Γ lv c e x) : EOk P w K mg base Γ lv c e (withFz b x) := by
  obtain ⟨⟨t, h1, h2⟩, u, h3, h4⟩ := h
  exact ⟨⟨t, ok_withFz h1, h2⟩, u, ok_withFzT h3, h4⟩
theorem ok_withPre {is : List Nat} {t : TE} {x : Ex} (h : TEok K t (evE Γ x)) : TEok K t (evE Γ (withPre is x)) := by
  cases is with
  | nil => exact h
  | cons i r =>
    have z := ok_pre (i :: r) h
    intro R G0 G H env σ tmp o env' Q S e q
    refine z _ _ _ _ _ _ _ _ _ _ S ?_ q
    have e : evE Γ (.pre (i :: r) x) env = some (o, env') := e
    rw [evE] at e
    exact e
theorem VOk.pre {e : Expr} {x : Ex} {is : List Nat} (h : VOk P w K mg base Γ lv c e x) : VOk P w K mg base Γ lv c e (withPre is x) := by
  obtain ⟨t, h1, h2⟩ := h
  exact ⟨t, ok_withPre h1, h2⟩
theorem BOk.e {e : Expr} {ir : Ex} (h : BOk P w K mg base Γ lv c e ir) : EOk P w K mg base Γ lv c e ir := by
  obtain ⟨h1, t, h2, h3⟩ := h
  exact ⟨h1, t, h2, fun X O => (h3 X O).pt⟩
theorem o_cst {v : Const} {d : PyData} {k : Nat} {pos : Pos} (h : cst v = some d) : VOk P w K mg base Γ lv c (.Constant v k pos) (.cst d) := by
  cases v <;> first | contradiction | skip
  · cases h
    exact ⟨tC .non, ok_cst fun _ => .non, fun X O => pe_non⟩
  · cases h
    exact ⟨tC (.bl _), ok_cst fun _ => .bl _, fun X O => pe_bl⟩
  · cases h
    exact ⟨tC (.int _), ok_cst fun _ => .int _, fun X O => pe_int⟩
  · cases h
    exact ⟨tC (.str _), ok_cst fun _ => .str _, fun X O => pe_str⟩
theorem o_var {x : Str} {ir : Ex} {pos : Pos} (G : GO P w K mg base c Γ lv) (h : cVar c x = some ir) : VOk P w K mg base Γ lv c (.Name x pos) ir := by
  unfold cVar at h
  split at h
  · rename_i i hs
    cases h
    exact ⟨tVar i, ok_var, fun X O => O.var hs⟩
  · split at h
    · rename_i hg
      rw [Option.bind_eq_some_iff] at h
      obtain ⟨d, hd, e⟩ := h
      cases e
      obtain ⟨v, u, h1, h2, h3⟩ := G.glb x d hd
      exact ⟨tC v, ok_cst h3, fun X O => pe_glob (O.gl hg) (by rw [O.hm]; exact h1) h2 (isGl_nm hg)⟩
    · cases h
theorem o_bin {a b : Expr} {op : Operator} {o : Bop} {x y : Ex} {pos : Pos} (h : bopOf op = some o) (ha : VOk P w K mg base Γ lv c a x) (hb : VOk P w K mg base Γ lv c b y) : VOk P w K mg base Γ lv c (.BinOp a op b pos) (.bin o x y) := by
  obtain ⟨ta, a1, a2⟩ := ha
  obtain ⟨tb, b1, b2⟩ := hb
  refine ⟨tOp (rBin K o) ta tb, ok_op (ok_bin o) a1 b1, fun X O => ?_⟩
  have := pe_bin (pos := pos) h (a2 X O) (b2 X O)
  rw [O.hK] at this
  exact this
theorem o_cmp {a b : Expr} {op : CmpOp} {o : Cop} {x y : Ex} {pos : Pos} (h : copOf op = some o) (ha : VOk P w K mg base Γ lv c a x) (hb : VOk P w K mg base Γ lv c b y) : EOk P w K mg base Γ lv c (.Compare a [op] [b] pos) (.cmp o x y) := by
  obtain ⟨ta, a1, a2⟩ := ha
  obtain ⟨tb, b1, b2⟩ := hb
  have e1 := copOf_py h
  have t1 : TEok K (tOp (rCmp K o) ta tb) (evE Γ (.cmp o x y)) := ok_opB (ok_cmp o) a1 b1
  refine ⟨⟨_, t1, fun X O => ?_⟩, _, ok_tTest t1, fun X O => ?_⟩
  · have := pe_cmpR (pos := pos) (op_cmpD (X := X) (by have := O.units; omega) o) (a2 X O) (b2 X O) (by rw [← e1]; exact copOf_nb h b)
    rw [O.hK, ← e1] at this
    exact this
  · have := pt_cmpR (pos := pos) (op_cmpD (X := X) (by have := O.units; omega) o) (a2 X O) (b2 X O) (by rw [← e1]; exact copOf_nb h b)
    rw [O.hK, ← e1] at this
    exact this
theorem o_chn {a b d : Expr} {op op' : CmpOp} {o o' : Cop} {x y z : Ex} {pos : Pos} (h : copOf op = some o) (h' : copOf op' = some o') (ha : VOk P w K mg base Γ lv c a x) (hb : VOk P w K mg base Γ lv c b y) (hd : VOk P w K mg base Γ lv c d z) :
    EOk P w K mg base Γ lv c (.Compare a [op, op'] [b, d] pos) (.chn o o' x y z) := by
  obtain ⟨ta, a1, a2⟩ := ha
  obtain ⟨tb, b1, b2⟩ := hb
  obtain ⟨td, d1, d2⟩ := hd
  have e1 := copOf_py h
  have e2 := copOf_py h'
  have t1 : TEok K (tChain (rCmp K o) (rCmp K o') ta tb td) (evE Γ (.chn o o' x y z)) := ok_chain (ok_cmp o) (ok_cmp o') a1 b1 d1
  refine ⟨⟨_, t1, fun X O => ?_⟩, _, ok_tTest t1, fun X O => ?_⟩
  · have := pe_chain (pos := pos) (op_cmpD (X := X) (by have := O.units; omega) o) (op_cmpD (X := X) (by have := O.units; omega) o') (a2 X O) (b2 X O) (d2 X O) (by rw [← e1, ← e2]; exact copOf_lm h' b d)
    rw [O.hK, ← e1, ← e2] at this
    exact this
  · have := pt_chain (pos := pos) (op_cmpD (X := X) (by have := O.units; omega) o) (op_cmpD (X := X) (by have := O.units; omega) o') (a2 X O) (b2 X O) (d2 X O) (by rw [← e1, ← e2]; exact copOf_lm h' b d)
    rw [O.hK, ← e1, ← e2] at this
    exact this
theorem o_inn {a b : Expr} {ng : Bool} {x y : Ex} {pos : Pos} (h : behindInMarks (if ng then .NotIn else .In) b = false) (ha : VOk P w K mg base Γ lv c a x) (hb : VOk P w K mg base Γ lv c b y) : EOk P w K mg base Γ lv c (.Compare a [if ng then .NotIn else .In] [b] pos) (.inn ng x y) := by
  obtain ⟨ta, a1, a2⟩ := ha
  obtain ⟨tb, b1, b2⟩ := hb
  have t1 : TEok K (tOp (rIn K ng) ta tb) (evE Γ (.inn ng x y)) := ok_opB ok_inn a1 b1
  have hop : ∀ X : Cx, OpR X (compareOp (if ng then .NotIn else .In)) (rIn X.K ng) := fun X => by
    cases ng
    · exact op_in_seq
    · exact op_notIn_seq
  refine ⟨⟨_, t1, fun X O => ?_⟩, _, ok_tTest t1, fun X O => ?_⟩
  · have := pe_cmpR (pos := pos) (hop X) (a2 X O) (b2 X O) h
    rw [O.hK] at this
    exact this
  · have := pt_cmpR (pos := pos) (hop X) (a2 X O) (b2 X O) h
    rw [O.hK] at this
    exact this
theorem o_isN {a : Expr} {ng : Bool} {x : Ex} {pos p2 : Pos} {k2 : Nat} (ha : VOk P w K mg base Γ lv c a x) : EOk P w K mg base Γ lv c (.Compare a [if ng then .IsNot else .Is] [.Constant .none k2 p2] pos) (.isc ng .none x) := by
  obtain ⟨ta, a1, a2⟩ := ha
  have hr : ∀ d b (v : V) (G H : Hp) (Q : VK), isD ng .none d = some b → Rp K G v d → Q (.bl b) H → (fun x y H Q => y = V.non ∧ Q (.bl (if ng then !decide (x = .non) else decide (x = .non))) H : R2) v .non H Q := by
    intro d b v G H Q h r q
    refine ⟨rfl, ?_⟩
    have hb : b = (if ng then !decide (v = .non) else decide (v = .non)) := by
      cases r <;> (cases ng <;> (cases h; simp))
    rw [← hb]
    exact q
  have t1 : TEok K (tOp (fun x y H Q => y = V.non ∧ Q (.bl (if ng then !decide (x = .non) else decide (x = .non))) H : R2) ta (tC .non)) (evE Γ (.isc ng .none x)) := ok_isc (c := .none) (ng := ng) a1 rfl hr
  have hop : ∀ X : Cx, OpR X (compareOp (if ng then .IsNot else .Is)) (fun x y H Q => y = V.non ∧ Q (.bl (if ng then !decide (x = .non) else decide (x = .non))) H) := fun X => by
    cases ng
    · exact op_isN
    · exact op_notN
  have hm : behindInMarks (if ng then .IsNot else .Is) (.Constant .none k2 p2) = false := rfl
  exact ⟨⟨_, t1, fun X O => pe_cmpR (hop X) (a2 X O) pe_non hm⟩, _, ok_tTest t1, fun X O => pt_cmpR (hop X) (a2 X O) pe_non hm⟩
theorem o_isB {a : Expr} {ng k : Bool} {x : Ex} {pos p2 : Pos} {k2 : Nat} (ha : VOk P w K mg base Γ lv c a x) : EOk P w K mg base Γ lv c (.Compare a [if ng then .IsNot else .Is] [.Constant (.bool k) k2 p2] pos) (.isc ng (.bool k) x) := by
  obtain ⟨ta, a1, a2⟩ := ha
  have hr : ∀ d b (v : V) (G H : Hp) (Q : VK), isD ng (.bool k) d = some b → Rp K G v d → Q (.bl b) H → (fun x y H Q => ∃ a b, x = V.bl a ∧ y = V.bl b ∧ Q (.bl (if ng then !decide (a = b) else decide (a = b))) H : R2) v (.bl k) H Q := by
    intro d b v G H Q h r q
    cases r with
    | bl j =>
      cases h
      exact ⟨j, k, rfl, rfl, q⟩
    | _ => cases h
  have t1 : TEok K (tOp (fun x y H Q => ∃ a b, x = V.bl a ∧ y = V.bl b ∧ Q (.bl (if ng then !decide (a = b) else decide (a = b))) H : R2) ta (tC (.bl k))) (evE Γ (.isc ng (.bool k) x)) := ok_isc (c := .bool k) (ng := ng) a1 rfl hr
  have hop : ∀ X : Cx, OpR X (compareOp (if ng then .IsNot else .Is)) (fun x y H Q => ∃ a b, x = V.bl a ∧ y = V.bl b ∧ Q (.bl (if ng then !decide (a = b) else decide (a = b))) H) := fun X => by
    cases ng
    · exact op_isBl
    · exact op_notBl
  have hm : behindInMarks (if ng then .IsNot else .Is) (.Constant (.bool k) k2 p2) = false := rfl
  exact ⟨⟨_, t1, fun X O => pe_cmpR (hop X) (a2 X O) pe_bl hm⟩, _, ok_tTest t1, fun X O => pt_cmpR (hop X) (a2 X O) pe_bl hm⟩
theorem o_not {a : Expr} {x : Ex} {pos : Pos} (ha : EOk P w K mg base Γ lv c a x) : EOk P w K mg base Γ lv c (.UnaryOp .Not a pos) (.not_ x) := by
  obtain ⟨⟨ta, a1, a2⟩, tb, b1, b2⟩ := ha
  exact ⟨⟨_, ok_notV a1, fun X O => pe_not (a2 X O)⟩, _, ok_notT b1, fun X O => pt_not (b2 X O)⟩
theorem o_neg {a : Expr} {x : Ex} {pos : Pos} (ha : VOk P w K mg base Γ lv c a x) : VOk P w K mg base Γ lv c (.UnaryOp .USub a pos) (.neg x) := by
  obtain ⟨ta, a1, a2⟩ := ha
  exact ⟨_, ok_neg a1, fun X O => pe_un un_neg (a2 X O)⟩
theorem o_ite {d a b : Expr} {z x y : Ex} {pos : Pos} (hd : EOk P w K mg base Γ lv c d z) (ha : EOk P w K mg base Γ lv c a x) (hb : EOk P w K mg base Γ lv c b y) : EOk P w K mg base Γ lv c (.IfExp d a b pos) (.ite z x y) := by
  obtain ⟨_, td, d1, d2⟩ := hd
  obtain ⟨⟨ta, a1, a2⟩, ua, a3, a4⟩ := ha
  obtain ⟨⟨tb, b1, b2⟩, ub, b3, b4⟩ := hb
  exact ⟨⟨_, ok_if d1 a1 b1, fun X O => pe_ifExp (d2 X O) (a2 X O) (b2 X O)⟩, _, ok_ifT d1 a3 b3, fun X O => pt_ifExp (d2 X O) (a4 X O) (b4 X O)⟩
theorem o_lst {es : List Expr} {irs : Exs} {pos : Pos} (h : AOk P w K mg base Γ lv c es irs) (hp : plainArgs es = true) : VOk P w K mg base Γ lv c (.List es pos) (.lst irs) := by
  obtain ⟨t, h1, h2, _⟩ := h
  exact ⟨_, ok_lst h1, fun X O => pe_lst ((h2 X O).1 hp)⟩
theorem o_tup {es : List Expr} {irs : Exs} {pos : Pos} {k : Nat} (h : AOk P w K mg base Γ lv c es irs) (hp : plainArgs es = true) : VOk P w K mg base Γ lv c (.Tuple es k pos) (.tup irs) := by
  obtain ⟨t, h1, h2, _⟩ := h
  exact ⟨_, ok_tup h1, fun X O => pe_tup ((h2 X O).1 hp)⟩
theorem o_idx {a b : Expr} {x y : Ex} {pos : Pos} (hb0 : ∀ l u s p, b ≠ .Slice l u s p) (ha : VOk P w K mg base Γ lv c a x) (hb : VOk P w K mg base Γ lv c b y) : VOk P w K mg base Γ lv c (.Subscript a b pos) (.idx x y) := by
  obtain ⟨ta, a1, a2⟩ := ha
  obtain ⟨tb, b1, b2⟩ := hb
  refine ⟨tOp (rIdxD K) ta tb, fun R G0 G H env σ tmp o env' Q S e q => ok_op ok_idx a1 b1 _ _ _ _ _ _ _ _ _ _ S ?_ q, fun X O => ?_⟩
  · rw [evE] at e
    simp only [Option.bind_eq_some_iff] at e ⊢
    obtain ⟨p, h1, q, h2, d1, r1, d2, r2, z, hz, e⟩ := e
    exact ⟨p, h1, q, h2, d1, r1, d2, r2, .va z, by rw [hz]; rfl, e⟩
  · have := pe_ix (pos := pos) (ix_idxD (X := X)) (a2 X O) (b2 X O) (plainIx_of hb0)
    rw [O.hK] at this
    exact this
theorem o_slc {a : Expr} {lo hi : Option Expr} {x : Ex} {l h : Eo} {pos p2 : Pos} (ha : VOk P w K mg base Γ lv c a x) (hl : OOk P w K mg base Γ lv c lo l) (hh : OOk P w K mg base Γ lv c hi h) : VOk P w K mg base Γ lv c (.Subscript a (.Slice lo hi none p2) pos) (.slc x l h) := by
  obtain ⟨ta, a1, a2⟩ := ha
  obtain ⟨tl, l1, l2⟩ := hl
  obtain ⟨th, h1, h2⟩ := hh
  refine ⟨tSl (rSlcD K) ta tl th, ok_slc a1 l1 h1, fun X O => ?_⟩
  have := pe_slice (pos := pos) (p2 := p2) (sl_slcD (X := X)) (a2 X O) (l2 X O) (h2 X O)
  rw [O.hK] at this
  exact this
theorem o_and {a b : Expr} {r : List Expr} {x y : Ex} {pos : Pos} (ha : EOk P w K mg base Γ lv c a x) (hb : BOk P w K mg base Γ lv c (.BoolOp .And (b :: r) pos) y) : BOk P w K mg base Γ lv c (.BoolOp .And (a :: b :: r) pos) (.and_ x y) := by
  obtain ⟨⟨ta, a1, a2⟩, ua, a3, a4⟩ := ha
  obtain ⟨⟨tb, b1, b2⟩, ub, b3, b4⟩ := hb
  exact ⟨⟨_, ok_andV a1 b1, fun X O => pe_and (a2 X O) (b2 X O)⟩, _, ok_andT a3 b3, fun X O => pw_and (a4 X O) (b4 X O)⟩
theorem o_or {a b : Expr} {r : List Expr} {x y : Ex} {pos : Pos} (ha : EOk P w K mg base Γ lv c a x) (hb : BOk P w K mg base Γ lv c (.BoolOp .Or (b :: r) pos) y) : BOk P w K mg base Γ lv c (.BoolOp .Or (a :: b :: r) pos) (.or_ x y) := by
  obtain ⟨⟨ta, a1, a2⟩, ua, a3, a4⟩ := ha
  obtain ⟨⟨tb, b1, b2⟩, ub, b3, b4⟩ := hb
  exact ⟨⟨_, ok_orV a1 b1, fun X O => pe_or (a2 X O) (b2 X O)⟩, _, ok_orT a3 b3, fun X O => pw_or (a4 X O) (b4 X O)⟩
theorem o_bl1 {a : Expr} {op : BoolOp} {x : Ex} {pos : Pos} (ha : EOk P w K mg base Γ lv c a x) : BOk P w K mg base Γ lv c (.BoolOp op [a] pos) x := by
  obtain ⟨⟨ta, a1, a2⟩, ua, a3, a4⟩ := ha
  refine ⟨⟨_, a1, fun X O => pe_one (a2 X O)⟩, _, a3, fun X O => ?_⟩
  cases op
  · exact pw_and1 (a4 X O)
  · exact pw_or1 (a4 X O)
end
end Pd

/-! the reading is right: calls, comprehensions, sources, targets -/
namespace Pd
open PySem PySem.Spec PyProof.Rows L2

theorem bt_int : bootBuiltins "int" = some (.type "int") := by decide +kernel
theorem bt_bool : bootBuiltins "bool" = some (.type "bool") := by decide +kernel
theorem bt_str : bootBuiltins "str" = some (.type "str") := by decide +kernel
theorem bt_list : bootBuiltins "list" = some (.type "list") := by decide +kernel
theorem bt_tuple : bootBuiltins "tuple" = some (.type "tuple") := by decide +kernel
theorem bt_dict : bootBuiltins "dict" = some (.type "dict") := by decide +kernel
theorem bt_len : bootBuiltins "len" = some (.builtin "len") := by decide +kernel
theorem bt_sum : bootBuiltins "sum" = some (.builtin "sum") := by decide +kernel
theorem bt_max : bootBuiltins "max" = some (.builtin "max") := by decide +kernel
theorem bt_min : bootBuiltins "min" = some (.builtin "min") := by decide +kernel
theorem bt_abs : bootBuiltins "abs" = some (.builtin "abs") := by decide +kernel
theorem bt_all : bootBuiltins "all" = some (.builtin "all") := by decide +kernel
theorem bt_any : bootBuiltins "any" = some (.builtin "any") := by decide +kernel
theorem bt_sorted : bootBuiltins "sorted" = some (.builtin "sorted") := by decide +kernel
theorem bt_divmod : bootBuiltins "divmod" = some (.builtin "divmod") := by decide +kernel
theorem bt_repr : bootBuiltins "repr" = some (.builtin "repr") := by decide +kernel
theorem bt_isi : bootBuiltins "isinstance" = some (.builtin "isinstance") := by decide +kernel

section
variable {P : Program} {w : World} {K : PySem.W.Frag} {mg : Str → Option Value} {base : Heap} {Γ : Tab} {lv : Nat} {c : CC} {X : Cx}
theorem pa_c {e : Expr} {es : List Expr} {te : TE} {t : TA} (hp : plainArgs (e :: es) = true) (ha : PE X e te) (hr : PA X es t) : PA X (e :: es) (tCons te t) := pa_cons ha hr (star_cons X.env hp)
theorem any_c {e : Expr} {es : List Expr} (pos : Pos) (hp : plainArgs (e :: es) = true) : (backTo pos (starEach es X.env)).any (·.1) = false := star_any X.env pos (plainArgs_cons hp)
/-- a built-in function -/
theorem o_blt {x : Str} {id : String} {r : List V → Hp → VK → Prop} {b : Bi} {es : List Expr} {irs : Exs} {p pos : Pos} (hx : x ∈ bNames) (hv : bootBuiltins x = some (.builtin id)) (hn : x ≠ "__name__") (ok : CallOk K r (biD b))
    (hc : ∀ X, XO P w K mg base Γ lv c X → CallR X (.builtin id) r) (hg : isGl c x = true) (hp : plainArgs es = true) (hne : es ≠ []) (h : AOk P w K mg base Γ lv c es irs) : VOk P w K mg base Γ lv c (.Call (.Name x p) es [] pos) (.bi b irs) := by
  obtain ⟨t, h1, h2, _⟩ := h
  refine ⟨tCB r t, ok_call ok h1, fun X O => ?_⟩
  cases es with
  | nil => exact absurd rfl hne
  | cons e es => exact pe_callB (hc X O) (O.gl hg) (O.bi hx) hv ((h2 X O).1 hp) hn (isGl_nm hg) (star_cons X.env hp) (any_c pos hp)
/-- a built-in type -/
theorem o_bty {x : Str} {id : String} {r : List V → Hp → VK → Prop} {b : Bi} {es : List Expr} {irs : Exs} {p pos : Pos} (hx : x ∈ bNames) (hv : bootBuiltins x = some (.type id)) (hn : x ≠ "__name__") (ok : CallOk K r (biD b))
    (hc : ∀ X, XO P w K mg base Γ lv c X → CallR X (.type id) r) (hg : isGl c x = true) (hp : plainArgs es = true) (hne : es ≠ []) (h : AOk P w K mg base Γ lv c es irs) : VOk P w K mg base Γ lv c (.Call (.Name x p) es [] pos) (.bi b irs) := by
  obtain ⟨t, h1, h2, _⟩ := h
  refine ⟨tCB r t, ok_call ok h1, fun X O => ?_⟩
  cases es with
  | nil => exact absurd rfl hne
  | cons e es => exact pe_callTy (hc X O) (O.gl hg) (O.bi hx) hv ((h2 X O).1 hp) hn (isGl_nm hg) (star_cons X.env hp) (any_c pos hp)
theorem lookup_mem {β : Type} {x : Str} {b : β} : ∀ {l : List (Str × β)}, l.lookup x = some b → (x, b) ∈ l
  | [], h => by cases h
  | (y, d) :: r, h => by
    rw [List.lookup_cons] at h
    split at h
    · rename_i e
      cases h
      rw [eq_of_beq e]
      exact List.mem_cons_self
    · exact List.mem_cons_of_mem _ (lookup_mem h)
theorem o_bi {x : Str} {b : Bi} {es : List Expr} {irs : Exs} {p pos : Pos} (hb : biOf x = some b) (hg : isGl c x = true) (hp : plainArgs es = true) (hne : es ≠ []) (h : AOk P w K mg base Γ lv c es irs) : VOk P w K mg base Γ lv c (.Call (.Name x p) es [] pos) (.bi b irs) := by
  have hb := lookup_mem hb
  simp only [biTab, List.mem_cons, List.not_mem_nil, or_false, Prod.mk.injEq] at hb
  rcases hb with ⟨rfl, rfl⟩ | ⟨rfl, rfl⟩ | ⟨rfl, rfl⟩ | ⟨rfl, rfl⟩ | ⟨rfl, rfl⟩ | ⟨rfl, rfl⟩ | ⟨rfl, rfl⟩ | ⟨rfl, rfl⟩ | ⟨rfl, rfl⟩ | ⟨rfl, rfl⟩ | ⟨rfl, rfl⟩ | ⟨rfl, rfl⟩ | ⟨rfl, rfl⟩
  · exact o_blt (by decide) bt_len (by decide) ok_len (fun X O => by have := (call_len (X := X)); rw [O.hK] at this; exact this) hg hp hne h
  · exact o_blt (by decide) bt_sum (by decide) ok_sum (fun X O => by have := (cr_sumD (X := X) O.calm); rw [O.hK] at this; exact this) hg hp hne h
  · exact o_blt (by decide) bt_max (by decide) ok_max (fun X O => by have := (cr_maxD (X := X) O.calm); rw [O.hK] at this; exact this) hg hp hne h
  · exact o_blt (by decide) bt_min (by decide) ok_min (fun X O => by have := (cr_minD (X := X) O.calm); rw [O.hK] at this; exact this) hg hp hne h
  · exact o_blt (by decide) bt_abs (by decide) ok_abs (fun X O => call_abs) hg hp hne h
  · exact o_bty (by decide) bt_int (by decide) ok_int (fun X O => call_int1) hg hp hne h
  · exact o_bty (by decide) bt_list (by decide) ok_list (fun X O => by have := (call_list_of (X := X)); rw [O.hK] at this; exact this) hg hp hne h
  · exact o_bty (by decide) bt_tuple (by decide) ok_tuple (fun X O => by have := (call_tuple_of (X := X)); rw [O.hK] at this; exact this) hg hp hne h
  · exact o_blt (by decide) bt_all (by decide) ok_all (fun X O => by have := (cr_all (X := X) O.calm); rw [O.hK] at this; exact this) hg hp hne h
  · exact o_blt (by decide) bt_any (by decide) ok_any (fun X O => by have := (cr_any (X := X) O.calm); rw [O.hK] at this; exact this) hg hp hne h
  · exact o_blt (by decide) bt_sorted (by decide) ok_sorted (fun X O => by have := (cr_sorted2 (X := X) (by have := O.units; omega)); rw [O.hK] at this; exact this) hg hp hne h
  · exact o_blt (by decide) bt_divmod (by decide) ok_divmod (fun X O => call_divmodW) hg hp hne h
  · exact o_blt (by decide) bt_repr (by decide) ok_repr (fun X O => by have := (cr_repr (X := X) O.guards O.units); rw [O.hK] at this; exact this) hg hp hne h
/-- a def -/
theorem o_fn {x : Str} {k : Nat} {g : FnI} {kws : List Keyword} {ks : List Str} {pm : List Nat} {es : List Expr} {irs jrs : Exs} {p pos : Pos} (G : GO P w K mg base c Γ lv) (hf : fnAt x c.fns 0 = some (k, g)) (hk : kwNames kws = some ks) (hs : shapeAt es.length ks g.shapes = some pm) (hg : isGl c x = true) (hp : plainArgs es = true)
    (h : AOk P w K mg base Γ lv c es irs) (h' : AOk P w K mg base Γ lv c (kwVals kws) jrs) : VOk P w K mg base Γ lv c (.Call (.Name x p) es kws pos) (.call k irs jrs pm) := by
  obtain ⟨t, h1, h2, hl, hnil⟩ := h
  obtain ⟨tk, h1', h2', hl', _⟩ := h'
  obtain ⟨sig, f, fd, e1, e2, e3, F, B⟩ := G.fns x k g hf
  have hlen : ∀ {kws : List Keyword} {ks : List Str}, kwNames kws = some ks → (kwVals kws).length = ks.length := by
    intro kws
    induction kws with
    | nil =>
      intro ks h
      cases h
      rfl
    | cons a r ih =>
      intro ks h
      obtain ⟨o, e, q⟩ := a
      cases o with
      | none => cases h
      | some nm =>
        unfold kwNames at h
        rw [Option.bind_eq_some_iff] at h
        obtain ⟨ks', z, e⟩ := h
        cases e
        show (kwVals r).length + 1 = ks'.length + 1
        rw [ih z]
  refine ⟨tCallD (spD K sig) es.length ks.length pm t tk, ok_callD e1 h1 h1' hl (fun e p z => (hl' e p z).trans (hlen hk)), fun X O => ?_⟩
  have F' : FnD X.prog X.w X.K X.mg X.base lv f fd g.ps (spD K sig) := by
    rw [O.hP, O.hw, O.hK, O.hm, O.hb]
    exact F
  have B' : BindsD X.K fd g.ps es.length ks pm := by
    rw [O.hK]
    exact B _ _ _ hs
  have e3' : PySem.W.keepIn X.K (.ref f) = true := by
    rw [O.hK]
    exact e3
  cases es with
  | nil =>
    rw [hnil rfl]
    exact pe_callD0 (p := p) (pos := pos) F' O.room O.guards (O.gl hg) (by rw [O.hm]; exact e2) e3' B' hk ((h2' X O).2 kws rfl) (isGl_nm hg)
  | cons e es => exact pe_callD F' O.room O.guards (O.gl hg) (by rw [O.hm]; exact e2) e3' B' hp hk ((h2 X O).1 hp) ((h2' X O).2 kws rfl) (isGl_nm hg)
end
end Pd
namespace Pd
open PySem PySem.Spec PyProof.Rows L2
section
variable {P : Program} {w : World} {K : PySem.W.Frag} {mg : Str → Option Value} {base : Heap} {Γ : Tab} {lv : Nat} {c : CC} {X : Cx}
theorem ty_boot {x : Str} {t : Ty} (h : tyOf x = some t) : x ∈ bNames ∧ bootBuiltins x = some (.type t.name) ∧ x ≠ "__name__" := by
  have h := lookup_mem h
  simp only [tyTab, List.mem_cons, List.not_mem_nil, or_false, Prod.mk.injEq] at h
  rcases h with ⟨rfl, rfl⟩ | ⟨rfl, rfl⟩ | ⟨rfl, rfl⟩ | ⟨rfl, rfl⟩ | ⟨rfl, rfl⟩ | ⟨rfl, rfl⟩
  · exact ⟨by decide, bt_int, by decide⟩
  · exact ⟨by decide, bt_bool, by decide⟩
  · exact ⟨by decide, bt_str, by decide⟩
  · exact ⟨by decide, bt_list, by decide⟩
  · exact ⟨by decide, bt_tuple, by decide⟩
  · exact ⟨by decide, bt_dict, by decide⟩
theorem XO.ty (O : XO P w K mg base Γ lv c X) {x : Str} {t : Ty} {pos : Pos} (hg : isGl c x = true) (h : tyOf x = some t) : PE X (.Name x pos) (tC (.ty t.name)) := by
  obtain ⟨h1, h2, h3⟩ := ty_boot h
  exact pe_bltn (O.gl hg) (O.bi h1) h2 rfl h3 (isGl_nm hg)
theorem XO.tys (O : XO P w K mg base Γ lv c X) : ∀ {es : List Expr} {ts : List Ty}, tyNames c es = some ts → PA X es (tTys ts)
  | [], ts, h => by
    cases h
    exact pa_nil
  | e :: es, ts, h => by
    cases e with
    | Name x pos =>
      unfold tyNames at h
      split at h
      · rename_i hg
        simp only [Option.bind_eq_some_iff] at h
        obtain ⟨t, h1, ts', h2, e⟩ := h
        cases e
        have z := pa_cons (O.ty (pos := pos) hg h1) (O.tys h2) rfl
        exact z
      · cases h
    | _ => cases h
theorem o_isi1 {a : Expr} {x : Ex} {y : Str} {t : Ty} {p p2 pos : Pos} (hg : isGl c ("isinstance" : Str) = true) (hgy : isGl c y = true) (ht : tyOf y = some t) (hp : plainArgs [a, .Name y p2] = true) (ha : VOk P w K mg base Γ lv c a x) :
    VOk P w K mg base Γ lv c (.Call (.Name "isinstance" p) [a, .Name y p2] [] pos) (.isi [t] x) := by
  obtain ⟨ta, a1, a2⟩ := ha
  refine ⟨_, ok_isi1 a1, fun X O => ?_⟩
  have z := pe_callB (p := p) (call_isi (X := X)) (O.gl hg) (O.bi (by decide)) bt_isi (pa_c hp (a2 X O) (pa_cons (O.ty (pos := p2) hgy ht) pa_nil rfl)) (by decide) (isGl_nm hg) (star_cons X.env hp) (any_c pos hp)
  rw [O.hK] at z
  exact z
theorem o_isiT {a : Expr} {x : Ex} {es : List Expr} {ts : List Ty} {k : Nat} {p p2 pos : Pos} (hg : isGl c ("isinstance" : Str) = true) (ht : tyNames c es = some ts) (hp : plainArgs [a, .Tuple es k p2] = true) (ha : VOk P w K mg base Γ lv c a x) :
    VOk P w K mg base Γ lv c (.Call (.Name "isinstance" p) [a, .Tuple es k p2] [] pos) (.isi ts x) := by
  obtain ⟨ta, a1, a2⟩ := ha
  refine ⟨_, ok_isiT a1, fun X O => ?_⟩
  have z := pe_callB (p := p) (call_isiT (X := X)) (O.gl hg) (O.bi (by decide)) bt_isi (pa_c hp (a2 X O) (pa_cons (pe_tup (x1 := k) (pos := p2) (O.tys ht)) pa_nil rfl)) (by decide) (isGl_nm hg) (star_cons X.env hp) (any_c pos hp)
  rw [O.hK] at z
  exact z
theorem o_reprL {es : List Expr} {irs : Exs} {p p2 pos : Pos} (hg : isGl c ("repr" : Str) = true) (hp : plainArgs es = true) (h : AOk P w K mg base Γ lv c es irs) : VOk P w K mg base Γ lv c (.Call (.Name "repr" p) [.List es p2] [] pos) (.reprL irs) := by
  obtain ⟨t, h1, h2, _⟩ := h
  refine ⟨_, ok_reprL h1, fun X O => ?_⟩
  have z := pe_callB (p := p) (pos := pos) (cr_repr (X := X) O.guards O.units) (O.gl hg) (O.bi (by decide)) bt_repr (pa_cons (pe_lst (pos := p2) ((h2 X O).1 hp)) pa_nil rfl) (by decide) (isGl_nm hg) rfl rfl
  rw [O.hK] at z
  exact z
theorem o_rg1 {tp : Bool} {a : Expr} {x : Ex} {p p2 pos pos2 : Pos} (hg : isGl c (if tp then ("tuple" : Str) else ("list" : Str)) = true) (hr : isGl c ("range" : Str) = true) (hp : plainArgs [a] = true) (ha : VOk P w K mg base Γ lv c a x) :
    VOk P w K mg base Γ lv c (.Call (.Name (if tp then ("tuple" : Str) else ("list" : Str)) p) [.Call (.Name "range" p2) [a] [] pos2] [] pos) (.rngL tp (.cons x .nil)) := by
  obtain ⟨ta, a1, a2⟩ := ha
  refine ⟨_, ok_rg1 a1, fun X O => ?_⟩
  exact pe_rgL tp O.calm (O.gl hg) (O.bi (by cases tp <;> decide)) (prg_1 (O.gl hr) (O.bi (by decide)) (a2 X O) (star_cons X.env hp)) rfl
theorem o_rg2 {tp : Bool} {a b : Expr} {x y : Ex} {p p2 pos pos2 : Pos} (hg : isGl c (if tp then ("tuple" : Str) else ("list" : Str)) = true) (hr : isGl c ("range" : Str) = true) (hp : plainArgs [a, b] = true) (ha : VOk P w K mg base Γ lv c a x) (hb : VOk P w K mg base Γ lv c b y) :
    VOk P w K mg base Γ lv c (.Call (.Name (if tp then ("tuple" : Str) else ("list" : Str)) p) [.Call (.Name "range" p2) [a, b] [] pos2] [] pos) (.rngL tp (.cons x (.cons y .nil))) := by
  obtain ⟨ta, a1, a2⟩ := ha
  obtain ⟨tb, b1, b2⟩ := hb
  refine ⟨_, ok_rg2 a1 b1, fun X O => ?_⟩
  exact pe_rgL tp O.calm (O.gl hg) (O.bi (by cases tp <;> decide)) (prg_2 (O.gl hr) (O.bi (by decide)) (a2 X O) (b2 X O) (star_cons X.env hp) (star_cons X.env (plainArgs_cons hp)) (star_any X.env _ (plainArgs_cons hp))) rfl
theorem o_zipL {a b : Expr} {x y : Ex} {p p2 pos pos2 : Pos} (hg : isGl c ("list" : Str) = true) (hz : isGl c ("zip" : Str) = true) (hp : plainArgs [a, b] = true) (ha : VOk P w K mg base Γ lv c a x) (hb : VOk P w K mg base Γ lv c b y) :
    VOk P w K mg base Γ lv c (.Call (.Name "list" p) [.Call (.Name "zip" p2) [a, b] [] pos2] [] pos) (.zipL x y) := by
  obtain ⟨ta, a1, a2⟩ := ha
  obtain ⟨tb, b1, b2⟩ := hb
  refine ⟨_, ok_zipL a1 b1, fun X O => ?_⟩
  have z := pe_listZip (X := X) (p := p) (p2 := p2) (pos := pos) (pos2 := pos2) O.calm (O.gl hg) (O.bi (by decide)) (O.gl hz) (O.bi (by decide)) (pa_c hp (a2 X O) (pa_c (plainArgs_cons hp) (b2 X O) pa_nil)) (star_cons X.env hp) (star_any X.env _ (plainArgs_cons hp))
  rw [O.hK] at z
  exact z
theorem o_lenSet {a : Expr} {x : Ex} {p p2 pos pos2 : Pos} (hg : isGl c ("len" : Str) = true) (hz : isGl c ("set" : Str) = true) (hp : plainArgs [a] = true) (ha : VOk P w K mg base Γ lv c a x) :
    VOk P w K mg base Γ lv c (.Call (.Name "len" p) [.Call (.Name "set" p2) [a] [] pos2] [] pos) (.lenSet x) := by
  obtain ⟨ta, a1, a2⟩ := ha
  refine ⟨_, ok_lenSet a1, fun X O => ?_⟩
  have z := pe_lenSetU (X := X) (p := p) (p2 := p2) (q := pos2) (pos := pos) (O.gl hg) (O.bi (by decide)) (O.gl hz) (O.bi (by decide)) (a2 X O) O.calm (star_cons X.env hp)
  rw [O.hK] at z
  exact z
theorem o_rev {a : Expr} {x : Ex} {k : Nat} {p1 p2 p3 pos : Pos} (ha : VOk P w K mg base Γ lv c a x) : VOk P w K mg base Γ lv c (.Subscript a (.Slice none none (some (.UnaryOp .USub (.Constant (.int 1) k p1) p2)) p3) pos) (.rev x) := by
  obtain ⟨ta, a1, a2⟩ := ha
  refine ⟨_, ok_rev a1, fun X O => ?_⟩
  have z := pe_revL (k := k) (p1 := p1) (p2 := p2) (p3 := p3) (pos := pos) (a2 X O)
  rw [O.hK] at z
  exact z
/-! methods of a list -/
theorem o_bm {x : Str} {i : Nat} {id : String} {m : Str} {r : V → List V → Hp → VK → Prop} {f : List PyData → List PyData → Option (List PyData × PyData)} {a : Expr} {y : Ex} {pp ap pos : Pos} (hs : slot c x = some i) (hslot : Slot "list" m id) (hty : typeOf (.builtin id) = pure (.type "method_descriptor"))
    (hm : ∀ X : Cx, X.K = K → MtR X id r) (hp : plainArgs [a] = true) (hl : (ap.endLine == pos.line) = true) (hr : MutOk K r f) (ha : VOk P w K mg base Γ lv c a y) (ir : Ex)
    (hir : evE Γ ir = fun env => if isOwn env i then (evEs Γ (.cons y .nil) env).bind fun p => (Pd.frzs p.2 p.1).bind fun q => match q.2[i]? with
      | some (.ow ds) => (f ds q.1).bind fun r => some (.va r.2, q.2.set i (.ow r.1))
      | some (.io ds) => (f ds q.1).bind fun r => some (.va r.2, q.2.set i (.io r.1))
      | _ => none else none) : VOk P w K mg base Γ lv c (.Call (.Attribute (.Name x pp) m ap) [a] [] pos) ir := by
  obtain ⟨ta, a1, a2⟩ := ha
  refine ⟨tBM K "list" r (tVar i) (tCons ta tNil), ?_, fun X O => ?_⟩
  · rw [hir]
    exact ok_mut hr (ok_cons a1 ok_nil)
  · have z := pe_bm (cpos := pos) (apos := ap) PySem.F.plainAttrs_list hslot hty (hm X O.hK) (O.var (pos := pp) hs) (pa_c hp (a2 X O) pa_nil) rfl (by rw [star_all X.env pos hp]; rfl) hl (star_cons X.env hp) (any_c pos hp)
    rw [O.hK] at z
    exact z
theorem o_pop0 {x : Str} {i : Nat} {pp ap pos : Pos} (hs : slot c x = some i) (hl : (ap.endLine == pos.line) = true) : VOk P w K mg base Γ lv c (.Call (.Attribute (.Name x pp) "pop" ap) [] [] pos) (.mut .pop i .nil) := by
  refine ⟨tBM0 K "list" _ (tVar i), ok_mut0 (Γ := Γ) mut_pop, fun X O => ?_⟩
  have z := pe_bm0 (cpos := pos) (apos := ap) PySem.F.plainAttrs_list PySem.F.slot_list_pop PySem.F.type_list_pop (MtR.or (X := X) mt_pop mt_popAt) (O.var (pos := pp) hs) rfl hl
  rw [O.hK] at z
  exact z
theorem o_count {x : Str} {i : Nat} {a : Expr} {y : Ex} {pp ap pos : Pos} (hs : slot c x = some i) (hp : plainArgs [a] = true) (hl : (ap.endLine == pos.line) = true) (ha : VOk P w K mg base Γ lv c a y) : VOk P w K mg base Γ lv c (.Call (.Attribute (.Name x pp) "count" ap) [a] [] pos) (.mth .count (.var i) y) := by
  obtain ⟨ta, a1, a2⟩ := ha
  refine ⟨tBM K "list" (fun x xs H Q => rCntI K x xs H Q ∨ rOftL K x xs H Q) (tVar i) (tCons ta tNil), ok_lcount (fa := evE Γ (.var i)) ok_var a1, fun X O => ?_⟩
  have z := pe_bm (cpos := pos) (apos := ap) PySem.F.plainAttrs_list PySem.F.slot_list_count PySem.F.type_list_count (MtR.or (X := X) mt_lcount (mt_oftL (by have := O.units; omega))) (O.var (pos := pp) hs) (pa_c hp (a2 X O) pa_nil) rfl (by rw [star_all X.env pos hp]; rfl) hl (star_cons X.env hp) (any_c pos hp)
  rw [O.hK] at z
  exact z
theorem o_index {x : Str} {i : Nat} {a : Expr} {y : Ex} {pp ap pos : Pos} (hs : slot c x = some i) (hp : plainArgs [a] = true) (hl : (ap.endLine == pos.line) = true) (ha : VOk P w K mg base Γ lv c a y) : VOk P w K mg base Γ lv c (.Call (.Attribute (.Name x pp) "index" ap) [a] [] pos) (.mth .index (.var i) y) := by
  obtain ⟨ta, a1, a2⟩ := ha
  refine ⟨tBM K "list" (rIndexD K) (tVar i) (tCons ta tNil), ok_lindex (fa := evE Γ (.var i)) ok_var a1, fun X O => ?_⟩
  have z := pe_bm (cpos := pos) (apos := ap) PySem.F.plainAttrs_list PySem.F.slot_list_index PySem.F.type_list_index (mt_indexD (X := X) (by have := O.units; omega)) (O.var (pos := pp) hs) (pa_c hp (a2 X O) pa_nil) rfl (by rw [star_all X.env pos hp]; rfl) hl (star_cons X.env hp) (any_c pos hp)
  rw [O.hK] at z
  exact z
end
end Pd

/-! the reading is right: comprehensions, sources, targets -/
namespace Pd
open PySem PySem.Spec PyProof.Rows L2

section
variable {P : Program} {w : World} {K : PySem.W.Frag} {mg : Str → Option Value} {base : Heap} {Γ : Tab} {lv : Nat} {c : CC} {X : Cx}
theorem XO.blk {scope : Scope} {own : List (Str × Nat)} {s : Shared} {H : Hp} {C : Addr} {cl : List (Str × Addr)} {fp : List Addr} (O : XO P w K mg base Γ lv c X) (ok : BlkOk c.N c.sc scope own) :
    XO P w K mg base Γ lv (inC c scope) (X.blk s H scope (compEnvC scope cl C X.env) fp) := by
  refine ⟨O.hP, O.hw, O.hK, O.hm, O.hb, O.N, O.nd, ?_, O.calm, O.guards, O.room, rfl, fun y _ h2 => ?_, ⟨O.go.bi, O.go.fns, O.go.glb⟩⟩
  · show relS scope X.env.scope = relS scope c.sc
    rw [O.sc]
  · show (scope.names.lookup y == some NameKind.cell) = true
    have h2 : ((scope.names.filter fun p => p.2 == .cell).map (·.1)).contains y = true := h2
    rw [List.contains_iff_mem, List.mem_map] at h2
    obtain ⟨p, hp, e⟩ := h2
    obtain ⟨hp1, hp2⟩ := List.mem_filter.mp hp
    have u := ok.uniq p hp1
    have e2 : p.2 = .cell := eq_of_beq hp2
    rw [e, e2] at u
    rw [u]
    rfl
theorem noSet_pure {iter : Expr} (h : noSet iter = true) (env : Env) : ∀ x, foldedSetIterable iter env x = pure x := by
  intro x
  cases iter <;> first | rfl | cases h
theorem zip_snd : ∀ (xs : List Str) (ns : List Nat), xs.length = ns.length → (xs.zip ns).map (·.2) = ns
  | [], [], _ => rfl
  | x :: xs, n :: ns, h => by
    rw [List.zip_cons_cons, List.map_cons, zip_snd xs ns (by simpa using h)]
  | [], _ :: _, h => by cases h
  | _ :: _, [], h => by cases h
/-- what a comprehension is made of -/
theorem o_lc {elt tg iter : Expr} {ifs : List Expr} {scope : Scope} {pos : Pos} {xs : List Str} {own : List Nat} {s : Src} {t : Tg} {ts : Exs} {x : Ex} (hbk : blkC c.N c.sc scope (xs.zip own) = true) (hl : xs.length = own.length) (hn : ifs.length ≤ 1) (hns : noSet iter = true)
    (hix : (tgIx t).all (own.contains ·) = true) (hs : SOk P w K mg base Γ lv c iter tg s) (hg : GOk P w K mg base Γ lv (inC c scope) tg t) (ht : TsOk P w K mg base Γ lv (inC c scope) ifs ts) (he : VOk P w K mg base Γ lv (inC c scope) elt x) :
    VOk P w K mg base Γ lv c (.ListComp elt [⟨tg, iter, ifs, 0⟩] scope pos) (.comp x t s ts own) := by
  obtain ⟨wi, s1, s2⟩ := hs
  obtain ⟨g, g1, g2⟩ := hg
  obtain ⟨tt, t1, t2⟩ := ht hn
  obtain ⟨te, e1, e2⟩ := he
  have bk := blkOk_by hbk
  have hix' : ∀ i ∈ tgIx t, i ∈ own := fun i hi => by
    have := List.all_eq_true.mp hix i hi
    simpa using this
  refine ⟨tLc wi g tt te own, ok_lc s1 g1 hix' t1 e1, fun X O => ?_⟩
  have z := pe_lc (elt := elt) (tg := tg) (iter := iter) (ifs := ifs) (scope := scope) (own := xs.zip own) (pos := pos) O.calm (by rw [O.N]; exact O.nd) (s2 X O) (by rw [O.N, O.sc]; exact bk)
    (fun s H C cl fp => g2 _ (O.blk bk)) (fun s H C cl fp => t2 _ (O.blk bk)) (fun s H C cl fp => e2 _ (O.blk bk)) (noSet_pure hns X.env)
  rw [zip_snd xs own hl] at z
  exact z
/-- name = [..] -/
theorem o_setLc {elt tg iter : Expr} {ifs : List Expr} {scope : Scope} {pos py spos : Pos} {xs : List Str} {own : List Nat} {s : Src} {t : Tg} {ts : Exs} {x : Ex} (hbk : blkC c.N c.sc scope (xs.zip own) = true) (hl : xs.length = own.length) (hn : ifs.length ≤ 1) (hns : noSet iter = true)
    (hix : (tgIx t).all (own.contains ·) = true) (hs : SOk P w K mg base Γ lv c iter tg s) (hg : GOk P w K mg base Γ lv (inC c scope) tg t) (ht : TsOk P w K mg base Γ lv (inC c scope) ifs ts) (he : VOk P w K mg base Γ lv (inC c scope) elt x) {y : Str} {i : Nat} (hy : c.N[i]? = some y) (hyl : c.sc.names.lookup y = some .local)
    (hsw : ∀ env : Env, env.scope = c.sc → swapsWith (.ListComp elt [⟨tg, iter, ifs, 0⟩] scope pos) (some (.Name y py)) spos.line env = pure true) :
    ∃ te, TEok K te (evE Γ (.comp x t s ts own)) ∧ ∀ X, XO P w K mg base Γ lv c X → PS X (.Assign [.Name y py] (.ListComp elt [⟨tg, iter, ifs, 0⟩] scope pos) spos) (tAsg te (gName i)) := by
  obtain ⟨wi, s1, s2⟩ := hs
  obtain ⟨g, g1, g2⟩ := hg
  obtain ⟨tt, t1, t2⟩ := ht hn
  obtain ⟨te, e1, e2⟩ := he
  have bk := blkOk_by hbk
  have hix' : ∀ i ∈ tgIx t, i ∈ own := fun i hi => by
    have := List.all_eq_true.mp hix i hi
    simpa using this
  refine ⟨tLc wi g tt te own, ok_lc s1 g1 hix' t1 e1, fun X O => ?_⟩
  have z := ps_setLc (elt := elt) (tg := tg) (iter := iter) (ifs := ifs) (scope := scope) (own := xs.zip own) (pos := pos) (spos := spos) (py := py) (y := y) (i := i) O.calm (by rw [O.N]; exact O.nd) (by rw [O.N]; exact hy) (by rw [O.sc]; exact hyl) (hsw X.env O.sc) (s2 X O) (by rw [O.N, O.sc]; exact bk)
    (fun s H C cl fp => g2 _ (O.blk bk)) (fun s H C cl fp => t2 _ (O.blk bk)) (fun s H C cl fp => e2 _ (O.blk bk)) (noSet_pure hns X.env)
  rw [zip_snd xs own hl] at z
  exact z

theorem o_lcO {elt iter a : Expr} {elts : List Expr} {kk : Nat} {tpos p0 pos0 : Pos} {ifs : List Expr} {scope : Scope} {pos : Pos} {xs : List Str} {own : List Nat} {k : Nat} {t : Tg} {ts : Exs} {x : Ex} (hi : iter = .Call (.Name "enumerate" p0) [a] [] pos0) (hge : isGl c ("enumerate" : Str) = true) (hpa : plainArgs [a] = true) (ha : VOk P w K mg base Γ lv c a (.var k)) (hbk : blkC c.N c.sc scope (xs.zip own) = true) (hl : xs.length = own.length) (hn : ifs.length ≤ 1)
    (hix : (tgIx t).all (own.contains ·) = true) (hg : GOk P w K mg base Γ lv (inC c scope) (.Tuple elts kk tpos) t) (ht : TsOk P w K mg base Γ lv (inC c scope) ifs ts) (he : VOk P w K mg base Γ lv (inC c scope) elt x) :
    VOk P w K mg base Γ lv c (.ListComp elt [⟨.Tuple elts kk tpos, iter, ifs, 0⟩] scope pos) (.compO k x t ts own) ∧
    ∀ {y : Str} {i : Nat} {py spos : Pos} (hy : c.N[i]? = some y) (hyl : c.sc.names.lookup y = some .local)
      (hsw : ∀ env : Env, env.scope = c.sc → swapsWith (.ListComp elt [⟨.Tuple elts kk tpos, iter, ifs, 0⟩] scope pos) (some (.Name y py)) spos.line env = pure true),
      ∃ te, TEok K te (evE Γ (.compO k x t ts own)) ∧ ∀ X, XO P w K mg base Γ lv c X → PS X (.Assign [.Name y py] (.ListComp elt [⟨.Tuple elts kk tpos, iter, ifs, 0⟩] scope pos) spos) (tAsg te (gName i)) := by
  subst hi
  obtain ⟨ta, s1, s2⟩ := ha
  obtain ⟨g, g1, g2⟩ := hg
  obtain ⟨tt, t1, t2⟩ := ht hn
  obtain ⟨te, e1, e2⟩ := he
  have bk := blkOk_by hbk
  have hix' : ∀ i ∈ tgIx t, i ∈ own := fun i hi => by
    have := List.all_eq_true.mp hix i hi
    simpa using this
  have hP : ∀ X, XO P w K mg base Γ lv c X → PI X (.Tuple elts kk tpos) (.Call (.Name "enumerate" p0) [a] [] pos0) (iEnum K (tCons ta tNil)) := fun X O => by
    have z := pi_enum (p := p0) (pos := pos0) (elts := elts) (kk := kk) (tpos := tpos) (O.gl hge) (O.bi (by decide)) (pa_c hpa (s2 X O) pa_nil) (star_cons X.env hpa)
    rw [O.hK] at z
    exact z
  have hT : TEok K (tLc (iEnum K (tCons ta tNil)) g tt te own) (evE Γ (.compO k x t ts own)) := by
    intro R G0 G H env σ tmp o env' Q S e q
    refine ok_lcO s1 g1 hix' t1 e1 R G0 G H env σ tmp o env' Q S ?_ q
    rw [evE] at e
    exact e
  refine ⟨⟨_, hT, fun X O => ?_⟩, fun {y i py spos} hy hyl hsw => ⟨_, hT, fun X O => ?_⟩⟩
  · have z := pe_lc (elt := elt) (ifs := ifs) (scope := scope) (own := xs.zip own) (pos := pos) O.calm (by rw [O.N]; exact O.nd) (hP X O) (by rw [O.N, O.sc]; exact bk)
      (fun s H C cl fp => g2 _ (O.blk bk)) (fun s H C cl fp => t2 _ (O.blk bk)) (fun s H C cl fp => e2 _ (O.blk bk)) (noSet_pure rfl X.env)
    rw [zip_snd xs own hl] at z
    exact z
  · have z := ps_setLc (elt := elt) (ifs := ifs) (scope := scope) (own := xs.zip own) (pos := pos) (spos := spos) (py := py) (y := y) (i := i) O.calm (by rw [O.N]; exact O.nd) (by rw [O.N]; exact hy) (by rw [O.sc]; exact hyl) (hsw X.env O.sc) (hP X O) (by rw [O.N, O.sc]; exact bk)
      (fun s H C cl fp => g2 _ (O.blk bk)) (fun s H C cl fp => t2 _ (O.blk bk)) (fun s H C cl fp => e2 _ (O.blk bk)) (noSet_pure rfl X.env)
    rw [zip_snd xs own hl] at z
    exact z

/-! sources -/
theorem o_srcE {e tg : Expr} {x : Ex} (h : VOk P w K mg base Γ lv c e x) : SOk P w K mg base Γ lv c e tg (.ex x) := by
  obtain ⟨t, h1, h2⟩ := h
  refine ⟨_, ok_srcEx h1, fun X O => ?_⟩
  have z := pi_or (pi_list (tg := tg) (h2 X O)) (pi_tup (tg := tg) (h2 X O))
  rw [O.hK] at z
  exact z
theorem o_srcR {es : List Expr} {irs : Exs} {tg : Expr} {p pos : Pos} (hg : isGl c ("range" : Str) = true) (hp : plainArgs es = true) (hl : 1 ≤ es.length ∧ es.length ≤ 3) (h : AOk P w K mg base Γ lv c es irs) : SOk P w K mg base Γ lv c (.Call (.Name "range" p) es [] pos) tg (.rng irs) := by
  obtain ⟨t, h1, h2, h3, _⟩ := h
  refine ⟨iRngD es.length t, ok_srcRng h1 h3, fun X O => ?_⟩
  have ha := (h2 X O).1 hp
  match es, hl, hp, ha with
  | [a], _, hp, ha => exact pi_range1 (O.gl hg) (O.bi (by decide)) ha (star_cons X.env hp)
  | [a, b], _, hp, ha => exact pi_range2 (O.gl hg) (O.bi (by decide)) ha (by rw [star_cons X.env hp, star_cons X.env (plainArgs_cons hp)]; rfl) (star_cons X.env (plainArgs_cons hp))
  | [a, b, d], _, hp, ha => exact pi_range3 (O.gl hg) (O.bi (by decide)) ha (star_cons X.env hp) (star_any X.env _ (plainArgs_cons hp))
  | [], hl, _, _ => exact absurd hl.1 (by decide)
  | _ :: _ :: _ :: _ :: _, hl, _, _ => exact absurd hl.2 (by simp)
theorem o_srcN {a : Expr} {x : Ex} {elts : List Expr} {kk : Nat} {tpos p pos : Pos} (hg : isGl c ("enumerate" : Str) = true) (hp : plainArgs [a] = true) (h : VOk P w K mg base Γ lv c a x) : SOk P w K mg base Γ lv c (.Call (.Name "enumerate" p) [a] [] pos) (.Tuple elts kk tpos) (.enum x) := by
  obtain ⟨t, h1, h2⟩ := h
  refine ⟨_, ok_srcEnumA h1, fun X O => ?_⟩
  have z := pi_enumA (p := p) (pos := pos) (elts := elts) (kk := kk) (tpos := tpos) (O.gl hg) (O.bi (by decide)) (pa_c hp (h2 X O) pa_nil) (star_cons X.env hp)
  rw [O.hK] at z
  exact z
theorem o_srcZ {a b : Expr} {x y : Ex} {elts : List Expr} {kk : Nat} {tpos p pos : Pos} (hg : isGl c ("zip" : Str) = true) (hp : plainArgs [a, b] = true) (ha : VOk P w K mg base Γ lv c a x) (hb : VOk P w K mg base Γ lv c b y) : SOk P w K mg base Γ lv c (.Call (.Name "zip" p) [a, b] [] pos) (.Tuple elts kk tpos) (.zip x y) := by
  obtain ⟨t, h1, h2⟩ := ha
  obtain ⟨t', h1', h2'⟩ := hb
  refine ⟨_, ok_srcZip h1 h1', fun X O => ?_⟩
  have z := RZ.pi_zipA (p := p) (pos := pos) (elts := elts) (kk := kk) (tpos := tpos) (O.gl hg) (O.bi (by decide)) (pa_c hp (h2 X O) (pa_c (plainArgs_cons hp) (h2' X O) pa_nil)) (star_cons X.env hp) (star_any X.env _ (plainArgs_cons hp))
  rw [O.hK] at z
  exact z

/-! targets -/
theorem o_tgN {x : Str} {i : Nat} {pos : Pos} (h : slotS c x = some i) : GOk P w K mg base Γ lv c (.Name x pos) (.nm i) := ⟨gName i, ok_tgName, fun X O => O.tg h⟩
theorem asg_plain (env : Env) : ∀ es : List Expr, plainArgs es = true → assignEach es env = es.map fun e => (false, assign e env)
  | [], _ => rfl
  | e :: es, h => by
    have h1 : plainArgs es = true ∧ assignEach (e :: es) env = (false, assign e env) :: assignEach es env := by
      cases e <;> first | exact ⟨h, rfl⟩ | (simp [plainArgs] at h)
    rw [h1.2, asg_plain env es h1.1]
    rfl
theorem find_none {β : Type} (f : Expr → β) : ∀ es : List Expr, (es.map fun e => (false, f e)).findIdx? (·.1) = none := fun es => by
  rw [List.findIdx?_eq_none_iff]
  intro x hx
  obtain ⟨e, _, rfl⟩ := List.mem_map.mp hx
  rfl
theorem o_tgT {es : List Expr} {ts : Tgs} {k : Nat} {pos : Pos} (hp : plainArgs es = true) (h : GsOk P w K mg base Γ lv c es ts) : GOk P w K mg base Γ lv c (.Tuple es k pos) (.tp ts) := by
  obtain ⟨t, h1, h2, h3⟩ := h
  refine ⟨gTup K es.length t, ?_, fun X O => ?_⟩
  · intro R G0 G H env σ tmp v d env' Q S hns r e q
    refine ok_tgTup h1 h3 R G0 G H env σ tmp v d env' Q S hns r ?_ q
    cases d <;> first | exact e | cases e
  · have z := pg_tup (k := k) (pos := pos) (n := es.length) O.calm (h2 X O hp) (by rw [asg_plain X.env es hp, List.length_map]) (by rw [asg_plain X.env es hp]; exact find_none _ es)
    rw [O.hK] at z
    exact z
theorem asg_sub {o i : Expr} {pos : Pos} (env : Env) (h : ∀ l u s p, i ≠ .Slice l u s p) : ∀ v, assign (.Subscript o i pos) env v = (do
      let ov ← holding [v] (eval o env)
      let iv ← holding [v, ov] (eval i env)
      standAt pos
      holding [v, ov, iv] (setItem ov iv v)
      release [v, ov, iv] []) := by
  intro v
  cases i <;> first | rfl | exact absurd rfl (h _ _ _ _)
theorem o_tgS {x : Str} {i : Nat} {ix : Expr} {y : Ex} {p pos : Pos} (hi : ∀ l u s p, ix ≠ .Slice l u s p) (hs : slot c x = some i) (h : VOk P w K mg base Γ lv c ix y) : GOk P w K mg base Γ lv c (.Subscript (.Name x p) ix pos) (.sb i y) := by
  obtain ⟨t, h1, h2⟩ := h
  refine ⟨_, ok_tgSub h1, fun X O => ?_⟩
  exact pg_sub (O.var (pos := p) hs) (h2 X O) set_list (asg_sub X.env hi)
theorem o_tgNil : GsOk P w K mg base Γ lv c [] .nil := by
  refine ⟨gNil, ?_, fun X O _ => pgs_nil, fun ds e e' h => ?_⟩
  · intro R G0 G H env σ tmp vs ds env' Q S hn r e q
    refine ok_tgNil R G0 G H env σ tmp vs ds env' Q S hn r ?_ q
    cases ds <;> first | exact e | cases e
  · cases ds with
    | nil => rfl
    | cons _ _ => cases h
theorem o_tgCons {e : Expr} {es : List Expr} {t : Tg} {ts : Tgs} (h : GOk P w K mg base Γ lv c e t) (hs : GsOk P w K mg base Γ lv c es ts) : GsOk P w K mg base Γ lv c (e :: es) (.cons t ts) := by
  obtain ⟨g, g1, g2⟩ := h
  obtain ⟨gs, s1, s2, s3⟩ := hs
  refine ⟨gCons g gs, ?_, fun X O hp => ?_, fun ds e e' h => ?_⟩
  · intro R G0 G H env σ tmp vs ds env' Q S hn r e q
    refine ok_tgCons g1 s1 R G0 G H env σ tmp vs ds env' Q S hn r ?_ q
    cases ds <;> first | exact e | cases e
  · refine pgs_cons (g2 X O) (s2 X O (plainArgs_cons hp)) ?_
    rw [asg_plain X.env _ hp, asg_plain X.env _ (plainArgs_cons hp)]
    rfl
  · cases ds with
    | nil => cases h
    | cons d ds =>
      have h : (asgT Γ t d e).bind (fun e => asgTs Γ ts ds e) = some e' := h
      rw [Option.bind_eq_some_iff] at h
      obtain ⟨e1, _, h⟩ := h
      show ds.length + 1 = es.length + 1
      rw [s3 _ _ _ h]
end
end Pd

/-! the reading is right: the induction -/
namespace Pd
open PySem PySem.Spec PyProof.Rows L2

section
variable (P : Program) (w : World) (K : PySem.W.Frag) (mg : Str → Option Value) (base : Heap) (Γ : Tab) (lv : Nat)
structure IH (n : Nat) : Prop where
  e : ∀ c e ir, GO P w K mg base c Γ lv → cE n c e = some ir → EOk P w K mg base Γ lv c e ir
  bl : ∀ c op es p ir, GO P w K mg base c Γ lv → cBl n c op es p = some ir → BOk P w K mg base Γ lv c (.BoolOp op es p) ir
  cmp : ∀ c a op b ir pos, GO P w K mg base c Γ lv → cCmp n c a op b = some ir → EOk P w K mg base Γ lv c (.Compare a [op] [b] pos) ir
  sub : ∀ c a i ir pos, GO P w K mg base c Γ lv → cSub n c a i = some ir → VOk P w K mg base Γ lv c (.Subscript a i pos) ir
  lc : ∀ c elt tg iter ifs scope ir pos, GO P w K mg base c Γ lv → cLc n c elt tg iter ifs scope = some ir → VOk P w K mg base Γ lv c (.ListComp elt [⟨tg, iter, ifs, 0⟩] scope pos) ir ∧
    ∀ (y : Str) (i : Nat) (py spos : Pos), c.N[i]? = some y → c.sc.names.lookup y = some .local → (∀ env : Env, env.scope = c.sc → swapsWith (.ListComp elt [⟨tg, iter, ifs, 0⟩] scope pos) (some (.Name y py)) spos.line env = pure true) →
      ∃ te, TEok K te (evE Γ ir) ∧ ∀ X, XO P w K mg base Γ lv c X → PS X (.Assign [.Name y py] (.ListComp elt [⟨tg, iter, ifs, 0⟩] scope pos) spos) (tAsg te (gName i))
  nm : ∀ c f args kws ir p pos, GO P w K mg base c Γ lv → isGl c f = true → plainArgs args = true → cNm n c f args kws = some ir → VOk P w K mg base Γ lv c (.Call (.Name f p) args kws pos) ir
  rg : ∀ c tp bs ir p p2 pos pos2, GO P w K mg base c Γ lv → isGl c (if tp then ("tuple" : Str) else ("list" : Str)) = true → isGl c ("range" : Str) = true → plainArgs bs = true → cRg n c tp bs = some ir →
    VOk P w K mg base Γ lv c (.Call (.Name (if tp then ("tuple" : Str) else ("list" : Str)) p) [.Call (.Name "range" p2) bs [] pos2] [] pos) ir
  zp : ∀ c bs ir p p2 pos pos2, GO P w K mg base c Γ lv → isGl c ("list" : Str) = true → isGl c ("zip" : Str) = true → plainArgs bs = true → cZp n c bs = some ir →
    VOk P w K mg base Γ lv c (.Call (.Name "list" p) [.Call (.Name "zip" p2) bs [] pos2] [] pos) ir
  ls : ∀ c bs ir p p2 pos pos2, GO P w K mg base c Γ lv → isGl c ("len" : Str) = true → isGl c ("set" : Str) = true → plainArgs bs = true → cLs n c bs = some ir →
    VOk P w K mg base Γ lv c (.Call (.Name "len" p) [.Call (.Name "set" p2) bs [] pos2] [] pos) ir
  mt : ∀ c x m args ir p ap pos, GO P w K mg base c Γ lv → plainArgs args = true → (ap.endLine == pos.line) = true → cMt n c x m args = some ir → VOk P w K mg base Γ lv c (.Call (.Attribute (.Name x p) m ap) args [] pos) ir
  es : ∀ c es irs, GO P w K mg base c Γ lv → cEs n c es = some irs → AOk P w K mg base Γ lv c es irs ∧ TsOk P w K mg base Γ lv c es irs
  o : ∀ c e ir, GO P w K mg base c Γ lv → cO n c e = some ir → OOk P w K mg base Γ lv c e ir
  call : ∀ c f args kws ir p pos, GO P w K mg base c Γ lv → isGl c f = true → plainArgs args = true → cCall n c f args kws = some ir → VOk P w K mg base Γ lv c (.Call (.Name f p) args kws pos) ir
  src : ∀ c e tg ir, GO P w K mg base c Γ lv → cSrc n c e tg = some ir → SOk P w K mg base Γ lv c e tg ir
  t : ∀ c e ir, GO P w K mg base c Γ lv → cT n c e = some ir → GOk P w K mg base Γ lv c e ir
  ts : ∀ c es irs, GO P w K mg base c Γ lv → cTs n c es = some irs → GsOk P w K mg base Γ lv c es irs
end
section
variable {P : Program} {w : World} {K : PySem.W.Frag} {mg : Str → Option Value} {base : Heap} {Γ : Tab} {lv : Nat}
theorem EOk.v {c : CC} {e : Expr} {ir : Ex} (h : EOk P w K mg base Γ lv c e ir) : VOk P w K mg base Γ lv c e ir := h.1
theorem ih_zero : IH P w K mg base Γ lv 0 where
  e := fun c e ir G h => by cases h
  bl := fun c op es p ir G h => by cases h
  cmp := fun c a op b ir pos G h => by cases h
  sub := fun c a i ir pos G h => by cases h
  lc := fun c elt tg iter ifs scope ir pos G h => by cases h
  nm := fun c f args kws ir p pos G hg hp h => by cases h
  rg := fun c tp bs ir p p2 pos pos2 G hg hr hp h => by cases h
  zp := fun c bs ir p p2 pos pos2 G hg hr hp h => by cases h
  ls := fun c bs ir p p2 pos pos2 G hg hr hp h => by cases h
  mt := fun c x m args ir p ap pos G hp hl h => by cases h
  es := fun c es irs G h => by cases h
  o := fun c e ir G h => by cases h
  call := fun c f args kws ir p pos G hg hp h => by cases h
  src := fun c e tg ir G h => by cases h
  t := fun c e ir G h => by cases h
  ts := fun c es irs G h => by cases h
theorem ih_e {n : Nat} (I : IH P w K mg base Γ lv n) (c : CC) (e : Expr) (ir : Ex) (G : GO P w K mg base c Γ lv) (h : cE (n + 1) c e = some ir) : EOk P w K mg base Γ lv c e ir := by
  cases e with
  | Constant v k pos =>
    simp only [cE, Option.bind_eq_some_iff] at h
    obtain ⟨d, hd, e⟩ := h
    cases e
    exact (o_cst hd).e rfl
  | Name x pos =>
    simp only [cE] at h
    exact (o_var G h).e rfl
  | BinOp a op b pos =>
    simp only [cE, Option.bind_eq_some_iff] at h
    obtain ⟨o, ho, x, hx, y, hy, e⟩ := h
    cases e
    exact (o_bin ho (I.e c a x G hx).v (I.e c b y G hy).v).e rfl
  | UnaryOp op a pos =>
    cases op with
    | USub =>
      simp only [cE, Option.bind_eq_some_iff] at h
      obtain ⟨x, hx, e⟩ := h
      cases e
      exact (o_neg (I.e c a x G hx).v).e rfl
    | Not =>
      simp only [cE, Option.bind_eq_some_iff] at h
      obtain ⟨x, hx, e⟩ := h
      cases e
      exact o_not (I.e c a x G hx)
    | _ => simp [cE] at h
  | BoolOp op es pos =>
    simp only [cE] at h
    exact (I.bl c op es pos ir G h).e
  | IfExp d a b pos =>
    simp only [cE, Option.bind_eq_some_iff] at h
    obtain ⟨z, hz, x, hx, y, hy, e⟩ := h
    cases e
    exact (o_ite (I.e c d z G hz) (I.e c a x G hx) (I.e c b y G hy)).fz
  | Compare a ops bs pos =>
    simp only [cE] at h
    split at h
    · exact I.cmp c a _ _ ir pos G h
    · simp only [Option.bind_eq_some_iff] at h
      obtain ⟨o, ho, o', ho', x, hx, y, hy, z, hz, e⟩ := h
      cases e
      exact o_chn ho ho' (I.e c a x G hx).v (I.e c _ y G hy).v (I.e c _ z G hz).v
    · cases h
  | List es pos =>
    simp only [cE] at h
    split at h
    · rename_i hp
      simp only [Option.bind_eq_some_iff] at h
      obtain ⟨xs, hx, e⟩ := h
      cases e
      exact (o_lst (I.es c es xs G hx).1 hp).e rfl
    · cases h
  | Tuple es k pos =>
    simp only [cE] at h
    split at h
    · rename_i hp
      simp only [Option.bind_eq_some_iff] at h
      obtain ⟨xs, hx, e⟩ := h
      cases e
      exact (o_tup (I.es c es xs G hx).1 hp).e rfl
    · cases h
  | Subscript a i pos =>
    simp only [cE] at h
    exact (I.sub c a i ir pos G h).e rfl
  | ListComp elt gs scope pos =>
    simp only [cE] at h
    split at h
    · exact (I.lc c elt _ _ _ scope ir pos G h).1.e rfl
    · cases h
  | Call f args kws pos =>
    simp only [cE] at h
    split at h
    · split at h
      · rename_i hg
        rw [Bool.and_eq_true] at hg
        exact (I.nm c _ args kws ir _ pos G hg.1 hg.2 h).e rfl
      · cases h
    · split at h
      · split at h
        · rename_i hg
          rw [Bool.and_eq_true] at hg
          exact (I.mt c _ _ args ir _ _ pos G hg.1 hg.2 h).e rfl
        · cases h
      · cases h
    · cases h
  | _ => simp [cE] at h
theorem ih_bl {n : Nat} (I : IH P w K mg base Γ lv n) (c : CC) (op : BoolOp) (es : List Expr) (p : Pos) (ir : Ex) (G : GO P w K mg base c Γ lv) (h : cBl (n + 1) c op es p = some ir) : BOk P w K mg base Γ lv c (.BoolOp op es p) ir := by
  match es, h with
  | [], h => simp [cBl] at h
  | [a], h =>
    simp only [cBl] at h
    exact o_bl1 (I.e c a ir G h)
  | a :: b :: r, h =>
    cases op with
    | And =>
      simp only [cBl, Option.bind_eq_some_iff] at h
      obtain ⟨x, hx, y, hy, e⟩ := h
      cases e
      exact o_and (I.e c a x G hx) (I.bl c _ _ _ y G hy)
    | Or =>
      simp only [cBl, Option.bind_eq_some_iff] at h
      obtain ⟨x, hx, y, hy, e⟩ := h
      cases e
      exact o_or (I.e c a x G hx) (I.bl c _ _ _ y G hy)
theorem ih_cmp {n : Nat} (I : IH P w K mg base Γ lv n) (c : CC) (a : Expr) (op : CmpOp) (b : Expr) (ir : Ex) (pos : Pos) (G : GO P w K mg base c Γ lv) (h : cCmp (n + 1) c a op b = some ir) : EOk P w K mg base Γ lv c (.Compare a [op] [b] pos) ir := by
  unfold cCmp at h
  split at h
  · split at h
    · simp only [Option.bind_eq_some_iff] at h
      obtain ⟨x, hx, e⟩ := h
      cases e
      exact o_isN (ng := false) (I.e c a x G hx).v
    · simp only [Option.bind_eq_some_iff] at h
      obtain ⟨x, hx, e⟩ := h
      cases e
      exact o_isB (ng := false) (I.e c a x G hx).v
    · cases h
  · split at h
    · simp only [Option.bind_eq_some_iff] at h
      obtain ⟨x, hx, e⟩ := h
      cases e
      exact o_isN (ng := true) (I.e c a x G hx).v
    · simp only [Option.bind_eq_some_iff] at h
      obtain ⟨x, hx, e⟩ := h
      cases e
      exact o_isB (ng := true) (I.e c a x G hx).v
    · cases h
  · split at h
    · cases h
    · rename_i hb
      simp only [Option.bind_eq_some_iff] at h
      obtain ⟨x, hx, y, hy, e⟩ := h
      cases e
      exact o_inn (ng := false) (by simpa using hb) (I.e c a x G hx).v (I.e c b y G hy).v
  · split at h
    · cases h
    · rename_i hb
      simp only [Option.bind_eq_some_iff] at h
      obtain ⟨x, hx, y, hy, e⟩ := h
      cases e
      exact o_inn (ng := true) (by simpa using hb) (I.e c a x G hx).v (I.e c b y G hy).v
  · simp only [Option.bind_eq_some_iff] at h
    obtain ⟨o, ho, x, hx, y, hy, e⟩ := h
    cases e
    exact o_cmp ho (I.e c a x G hx).v (I.e c b y G hy).v
theorem ih_sub {n : Nat} (I : IH P w K mg base Γ lv n) (c : CC) (a i : Expr) (ir : Ex) (pos : Pos) (G : GO P w K mg base c Γ lv) (h : cSub (n + 1) c a i = some ir) : VOk P w K mg base Γ lv c (.Subscript a i pos) ir := by
  unfold cSub at h
  split at h
  · split at h
    · simp only [Option.bind_eq_some_iff] at h
      obtain ⟨x, hx, l, hl, u, hu, e⟩ := h
      cases e
      exact o_slc (I.e c a x G hx).v (I.o c _ l G hl) (I.o c _ u G hu)
    · split at h
      · simp only [Option.bind_eq_some_iff] at h
        obtain ⟨x, hx, e⟩ := h
        cases e
        exact o_rev (I.e c a x G hx).v
      · cases h
    · cases h
  · rename_i hi
    simp only [Option.bind_eq_some_iff] at h
    obtain ⟨x, hx, y, hy, e⟩ := h
    cases e
    exact o_idx hi (I.e c a x G hx).v (I.e c i y G hy).v
theorem src_enum {n : Nat} {e tg : Expr} {x : Ex} (h : cSrc (n + 1) c e tg = some (.enum x)) : ∃ p pos a elts kk tpos, e = .Call (.Name "enumerate" p) [a] [] pos ∧ tg = .Tuple elts kk tpos ∧ isGl c ("enumerate" : Str) = true ∧ plainArgs [a] = true ∧ cE n c a = some x := by
  unfold cSrc at h
  split at h
  · split at h
    · rename_i f p args pos hg
      rw [Bool.and_eq_true] at hg
      split at h
      · split at h
        · simp only [Option.bind_eq_some_iff] at h
          obtain ⟨_, _, h⟩ := h
          cases h
        · cases h
      · split at h
        · rename_i hf
          have hf := eq_of_beq hf
          subst hf
          split at h
          · rename_i a elts kk tpos
            simp only [Option.bind_eq_some_iff] at h
            obtain ⟨y, hy, h⟩ := h
            cases h
            exact ⟨_, _, _, _, _, _, rfl, rfl, hg.1, hg.2, hy⟩
          · cases h
        · split at h
          · split at h
            · simp only [Option.bind_eq_some_iff] at h
              obtain ⟨_, _, _, _, h⟩ := h
              cases h
            · cases h
          · simp only [Option.bind_eq_some_iff] at h
            obtain ⟨_, _, h⟩ := h
            cases h
    · cases h
  · simp only [Option.bind_eq_some_iff] at h
    obtain ⟨_, _, h⟩ := h
    cases h
theorem ih_lc {n : Nat} (I : IH P w K mg base Γ lv n) (c : CC) (elt tg iter : Expr) (ifs : List Expr) (scope : Scope) (ir : Ex) (pos : Pos) (G : GO P w K mg base c Γ lv) (h : cLc (n + 1) c elt tg iter ifs scope = some ir) :
    VOk P w K mg base Γ lv c (.ListComp elt [⟨tg, iter, ifs, 0⟩] scope pos) ir ∧
    ∀ (y : Str) (i : Nat) (py spos : Pos), c.N[i]? = some y → c.sc.names.lookup y = some .local → (∀ env : Env, env.scope = c.sc → swapsWith (.ListComp elt [⟨tg, iter, ifs, 0⟩] scope pos) (some (.Name y py)) spos.line env = pure true) →
      ∃ te, TEok K te (evE Γ ir) ∧ ∀ X, XO P w K mg base Γ lv c X → PS X (.Assign [.Name y py] (.ListComp elt [⟨tg, iter, ifs, 0⟩] scope pos) spos) (tAsg te (gName i)) := by
  unfold cLc at h
  simp only [Option.bind_eq_some_iff] at h
  obtain ⟨xs, hxs, own, hown, h⟩ := h
  split at h
  · rename_i hb
    simp only [Bool.and_eq_true, decide_eq_true_eq] at hb
    obtain ⟨⟨⟨b1, b2⟩, b3⟩, b4⟩ := hb
    simp only [Option.bind_eq_some_iff] at h
    obtain ⟨s, hs, t, ht, ts, hts, x, hx, h⟩ := h
    split at h
    · rename_i hix
      cases h
      have G' : GO P w K mg base (inC c scope) Γ lv := ⟨G.bi, G.fns, G.glb⟩
      have q1 := I.src c iter tg s G hs
      have q2 := I.t (inC c scope) tg t G' ht
      have q3 := (I.es (inC c scope) ifs ts G' hts).2
      have q4 := (I.e (inC c scope) elt x G' hx).v
      have plain : VOk P w K mg base Γ lv c (.ListComp elt [⟨tg, iter, ifs, 0⟩] scope pos) (.comp x t s ts own) ∧ ∀ (y : Str) (i : Nat) (py spos : Pos), c.N[i]? = some y → c.sc.names.lookup y = some .local → (∀ env : Env, env.scope = c.sc → swapsWith (.ListComp elt [⟨tg, iter, ifs, 0⟩] scope pos) (some (.Name y py)) spos.line env = pure true) →
          ∃ te, TEok K te (evE Γ (.comp x t s ts own)) ∧ ∀ X, XO P w K mg base Γ lv c X → PS X (.Assign [.Name y py] (.ListComp elt [⟨tg, iter, ifs, 0⟩] scope pos) spos) (tAsg te (gName i)) :=
        ⟨o_lc b1 b2 b3 b4 hix q1 q2 q3 q4, fun y i py spos hy hyl hsw => o_setLc b1 b2 b3 b4 hix q1 q2 q3 q4 hy hyl hsw⟩
      have both : VOk P w K mg base Γ lv c (.ListComp elt [⟨tg, iter, ifs, 0⟩] scope pos) (mkComp c iter x t s ts own) ∧ ∀ (y : Str) (i : Nat) (py spos : Pos), c.N[i]? = some y → c.sc.names.lookup y = some .local → (∀ env : Env, env.scope = c.sc → swapsWith (.ListComp elt [⟨tg, iter, ifs, 0⟩] scope pos) (some (.Name y py)) spos.line env = pure true) →
          ∃ te, TEok K te (evE Γ (mkComp c iter x t s ts own)) ∧ ∀ X, XO P w K mg base Γ lv c X → PS X (.Assign [.Name y py] (.ListComp elt [⟨tg, iter, ifs, 0⟩] scope pos) spos) (tAsg te (gName i)) := by
        unfold mkComp
        split
        · rename_i k
          split
          · rename_i hnm
            rw [Bool.and_eq_true] at hnm
            cases n with
            | zero => cases hs
            | succ n =>
              obtain ⟨p0, pos0, a, elts, kk, tpos, r1, r2, r3, r4, r5⟩ := src_enum hs
              subst r2
              have ha : VOk P w K mg base Γ lv c a (.var k) := by
                rw [r1] at hnm
                cases a with
                | Name z pz =>
                  cases n with
                  | zero => cases r5
                  | succ n =>
                    have r6 : cE (n + 1 + 1) c (.Name z pz) = some (.var k) := by
                      simp only [cE] at r5 ⊢
                      exact r5
                    exact (I.e c _ _ G r6).v
                | _ => exact absurd hnm.1 (fun z => Bool.noConfusion z)
              obtain ⟨z1, z2⟩ := o_lcO r1 r3 r4 ha b1 b2 b3 hix q2 q3 q4 (pos := pos)
              exact ⟨z1, fun y i py spos hy hyl hsw => z2 hy hyl hsw⟩
          · exact plain
        · exact plain
      refine ⟨both.1.pre, fun y i py spos hy hyl hsw => ?_⟩
      obtain ⟨te, z1, z2⟩ := both.2 y i py spos hy hyl hsw
      exact ⟨te, ok_withPre z1, z2⟩
    · cases h
  · cases h
theorem ih_rg {n : Nat} (I : IH P w K mg base Γ lv n) (c : CC) (tp : Bool) (bs : List Expr) (ir : Ex) (p p2 pos pos2 : Pos) (G : GO P w K mg base c Γ lv) (hg : isGl c (if tp then ("tuple" : Str) else ("list" : Str)) = true) (hr : isGl c ("range" : Str) = true) (hp : plainArgs bs = true) (h : cRg (n + 1) c tp bs = some ir) :
    VOk P w K mg base Γ lv c (.Call (.Name (if tp then ("tuple" : Str) else ("list" : Str)) p) [.Call (.Name "range" p2) bs [] pos2] [] pos) ir := by
  unfold cRg at h
  split at h
  · simp only [Option.bind_eq_some_iff] at h
    obtain ⟨x, hx, e⟩ := h
    cases e
    exact o_rg1 hg hr hp (I.e c _ x G hx).v
  · simp only [Option.bind_eq_some_iff] at h
    obtain ⟨x, hx, y, hy, e⟩ := h
    cases e
    exact o_rg2 hg hr hp (I.e c _ x G hx).v (I.e c _ y G hy).v
  · cases h
theorem ih_zp {n : Nat} (I : IH P w K mg base Γ lv n) (c : CC) (bs : List Expr) (ir : Ex) (p p2 pos pos2 : Pos) (G : GO P w K mg base c Γ lv) (hg : isGl c ("list" : Str) = true) (hr : isGl c ("zip" : Str) = true) (hp : plainArgs bs = true) (h : cZp (n + 1) c bs = some ir) :
    VOk P w K mg base Γ lv c (.Call (.Name "list" p) [.Call (.Name "zip" p2) bs [] pos2] [] pos) ir := by
  unfold cZp at h
  split at h
  · simp only [Option.bind_eq_some_iff] at h
    obtain ⟨x, hx, y, hy, e⟩ := h
    cases e
    exact o_zipL hg hr hp (I.e c _ x G hx).v (I.e c _ y G hy).v
  · cases h
theorem ih_ls {n : Nat} (I : IH P w K mg base Γ lv n) (c : CC) (bs : List Expr) (ir : Ex) (p p2 pos pos2 : Pos) (G : GO P w K mg base c Γ lv) (hg : isGl c ("len" : Str) = true) (hr : isGl c ("set" : Str) = true) (hp : plainArgs bs = true) (h : cLs (n + 1) c bs = some ir) :
    VOk P w K mg base Γ lv c (.Call (.Name "len" p) [.Call (.Name "set" p2) bs [] pos2] [] pos) ir := by
  unfold cLs at h
  split at h
  · simp only [Option.bind_eq_some_iff] at h
    obtain ⟨x, hx, e⟩ := h
    cases e
    exact o_lenSet hg hr hp (I.e c _ x G hx).v
  · cases h
theorem ih_nm {n : Nat} (I : IH P w K mg base Γ lv n) (c : CC) (f : Str) (args : List Expr) (kws : List Keyword) (ir : Ex) (p pos : Pos) (G : GO P w K mg base c Γ lv) (hg : isGl c f = true) (hp : plainArgs args = true) (h : cNm (n + 1) c f args kws = some ir) :
    VOk P w K mg base Γ lv c (.Call (.Name f p) args kws pos) ir := by
  unfold cNm at h
  split at h
  · rename_i hf
    have hf := eq_of_beq hf
    subst hf
    split at h
    · split at h
      · rename_i hgt
        simp only [Option.bind_eq_some_iff] at h
        obtain ⟨ty, hty, x, hx, e⟩ := h
        cases e
        exact o_isi1 hg hgt hty hp (I.e c _ x G hx).v
      · cases h
    · simp only [Option.bind_eq_some_iff] at h
      obtain ⟨tys, hty, x, hx, e⟩ := h
      cases e
      exact o_isiT hg hty hp (I.e c _ x G hx).v
    · cases h
  · split at h
    · split at h
      · rename_i hf
        have hf := eq_of_beq hf
        subst hf
        split at h
        · rename_i hp2
          simp only [Option.bind_eq_some_iff] at h
          obtain ⟨xs, hx, e⟩ := h
          cases e
          exact o_reprL hg hp2 (I.es c _ xs G hx).1
        · cases h
      · exact I.call c f _ _ ir p pos G hg hp h
    · rename_i g p2 bs pos2
      have rg : ∀ (tp : Bool), f = (if tp then ("tuple" : Str) else ("list" : Str)) → g = ("range" : Str) → (if isGl c g && plainArgs bs then cRg n c tp bs else none) = some ir → VOk P w K mg base Γ lv c (.Call (.Name f p) [.Call (.Name g p2) bs [] pos2] [] pos) ir := by
        intro tp e1 e2 h3
        subst e1
        subst e2
        by_cases hb : (isGl c ("range" : Str) && plainArgs bs) = true
        · rw [if_pos hb] at h3
          rw [Bool.and_eq_true] at hb
          exact I.rg c tp bs ir p p2 pos pos2 G hg hb.1 hb.2 h3
        · rw [if_neg hb] at h3
          cases h3
      split at h
      · rename_i hf
        rw [Bool.and_eq_true] at hf
        exact rg false (eq_of_beq hf.1) (eq_of_beq hf.2) h
      · split at h
        · rename_i hf
          rw [Bool.and_eq_true] at hf
          have e1 := eq_of_beq hf.1
          have e2 := eq_of_beq hf.2
          subst e1
          subst e2
          split at h
          · rename_i hq
            rw [Bool.and_eq_true, Bool.and_eq_true] at hq
            exact I.zp c bs ir p p2 pos pos2 G hq.1.1 hq.1.2 hq.2 h
          · cases h
        · split at h
          · rename_i hf
            rw [Bool.and_eq_true] at hf
            have e1 := eq_of_beq hf.1
            have e2 := eq_of_beq hf.2
            subst e1
            subst e2
            split at h
            · rename_i hq
              rw [Bool.and_eq_true, Bool.and_eq_true] at hq
              exact I.ls c bs ir p p2 pos pos2 G hq.1.1 hq.1.2 hq.2 h
            · cases h
          split at h
          · rename_i hf
            rw [Bool.and_eq_true] at hf
            exact rg true (eq_of_beq hf.1) (eq_of_beq hf.2) h
          · exact I.call c f _ _ ir p pos G hg hp h
    · exact I.call c f _ _ ir p pos G hg hp h
theorem ih_mt {n : Nat} (I : IH P w K mg base Γ lv n) (c : CC) (x m : Str) (args : List Expr) (ir : Ex) (p ap pos : Pos) (G : GO P w K mg base c Γ lv) (hp : plainArgs args = true) (hl : (ap.endLine == pos.line) = true) (h : cMt (n + 1) c x m args = some ir) :
    VOk P w K mg base Γ lv c (.Call (.Attribute (.Name x p) m ap) args [] pos) ir := by
  unfold cMt at h
  simp only [Option.bind_eq_some_iff] at h
  obtain ⟨i, hs, h⟩ := h
  split at h
  · split at h
    · rename_i hm
      have hm := eq_of_beq hm
      subst hm
      cases h
      exact o_pop0 hs hl
    · cases h
  · simp only [Option.bind_eq_some_iff] at h
    obtain ⟨y, hy, h⟩ := h
    have hv := (I.e c _ y G hy).v
    split at h
    · rename_i hm
      have hm := eq_of_beq hm
      subst hm
      cases h
      exact o_bm hs PySem.F.slot_list_append PySem.F.type_list_append (fun X _ => mt_append) hp hl mut_append hv _ (by funext env; rw [evE] <;> rfl)
    · split at h
      · rename_i hm
        have hm := eq_of_beq hm
        subst hm
        cases h
        exact o_bm hs PySem.F.slot_list_extend PySem.F.type_list_extend (fun X _ => mt_extend) hp hl mut_extend hv _ (by funext env; rw [evE] <;> rfl)
      · split at h
        · rename_i hm
          have hm := eq_of_beq hm
          subst hm
          cases h
          exact o_bm hs PySem.F.slot_list_pop PySem.F.type_list_pop (fun X _ => MtR.or (X := X) mt_pop mt_popAt) hp hl mut_pop hv _ (by funext env; rw [evE] <;> rfl)
        · split at h
          · rename_i hm
            have hm := eq_of_beq hm
            subst hm
            cases h
            exact o_count hs hp hl hv
          · split at h
            · rename_i hm
              have hm := eq_of_beq hm
              subst hm
              cases h
              exact o_index hs hp hl hv
            · cases h
  · cases h
theorem ih_es {n : Nat} (I : IH P w K mg base Γ lv n) (c : CC) (es : List Expr) (irs : Exs) (G : GO P w K mg base c Γ lv) (h : cEs (n + 1) c es = some irs) : AOk P w K mg base Γ lv c es irs ∧ TsOk P w K mg base Γ lv c es irs := by
  cases es with
  | nil =>
    simp only [cEs] at h
    cases h
    refine ⟨⟨tNil, ok_nil, fun X O => ⟨fun _ => pa_nil, fun kws hk => ?_⟩, fun env p hp => by cases hp; rfl, fun _ => rfl⟩, fun _ => ⟨tYes, ?_, fun X O => pts_nil⟩⟩
    · cases kws with
      | nil => exact pk_nil
      | cons k r =>
        obtain ⟨nm, v, kp⟩ := k
        have hk : v :: kwVals r = [] := hk
        cases hk
    · intro R G0 G H env σ tmp b env' Q S e q
      cases e
      exact q G H (Same.refl _) S
  | cons e es =>
    simp only [cEs, Option.bind_eq_some_iff] at h
    obtain ⟨x, hx, xs, hxs, e2⟩ := h
    cases e2
    obtain ⟨⟨t, h1, h2⟩, tt, h3, h4⟩ := I.e c e x G hx
    obtain ⟨⟨ts, s1, s2, s3, s4⟩, s5⟩ := I.es c es xs G hxs
    refine ⟨⟨tCons t ts, ok_cons h1 s1, fun X O => ⟨fun hp => pa_c hp (h2 X O) ((s2 X O).1 (plainArgs_cons hp)), fun kws hk => ?_⟩, fun env p hp => ?_, fun hn => by cases hn⟩, fun hl => ?_⟩
    · cases kws with
      | nil => cases hk
      | cons k r =>
        obtain ⟨nm, v, kp⟩ := k
        have hk : v :: kwVals r = e :: es := hk
        cases hk
        exact pk_cons (h2 X O) ((s2 X O).2 r rfl)
    · rw [evEs] at hp
      simp only [Option.bind_eq_some_iff] at hp
      obtain ⟨p1, q1, p2, q2, e⟩ := hp
      cases e
      show p2.1.length + 1 = es.length + 1
      rw [s3 _ _ q2]
    · have hn : es = [] := List.length_eq_zero_iff.mp (by simpa using hl)
      subst hn
      refine ⟨tt, ?_, fun X O => pts_one (h4 X O)⟩
      have hxs : xs = .nil := by
        cases n with
        | zero => cases hxs
        | succ m =>
          simp only [cEs] at hxs
          cases hxs
          rfl
      subst hxs
      intro R G0 G H env σ tmp b env' Q S e q
      refine h3 R G0 G H env σ tmp b env' Q S ?_ q
      rw [evAll] at e
      simp only [Option.bind_eq_some_iff] at e
      obtain ⟨p1, q1, k, hk, e⟩ := e
      unfold fT
      simp only [Option.bind_eq_some_iff]
      refine ⟨p1, q1, k, hk, ?_⟩
      cases k <;> exact e
theorem ih_o {n : Nat} (I : IH P w K mg base Γ lv n) (c : CC) (e : Option Expr) (ir : Eo) (G : GO P w K mg base c Γ lv) (h : cO (n + 1) c e = some ir) : OOk P w K mg base Γ lv c e ir := by
  cases e with
  | none =>
    simp only [cO] at h
    cases h
    exact ⟨_, ok_no, fun X O => po_none⟩
  | some e =>
    simp only [cO, Option.bind_eq_some_iff] at h
    obtain ⟨x, hx, e2⟩ := h
    cases e2
    obtain ⟨t, h1, h2⟩ := (I.e c e x G hx).v
    exact ⟨_, ok_part h1, fun X O => po_some (h2 X O)⟩
theorem ih_call {n : Nat} (I : IH P w K mg base Γ lv n) (c : CC) (f : Str) (args : List Expr) (kws : List Keyword) (ir : Ex) (p pos : Pos) (G : GO P w K mg base c Γ lv) (hg : isGl c f = true) (hp : plainArgs args = true) (h : cCall (n + 1) c f args kws = some ir) :
    VOk P w K mg base Γ lv c (.Call (.Name f p) args kws pos) ir := by
  unfold cCall at h
  split at h
  · rename_i k g hf
    simp only [Option.bind_eq_some_iff] at h
    obtain ⟨ks, hk, pm, hs, xs, hx, ys, hy, e⟩ := h
    cases e
    exact o_fn G hf hk hs hg hp (I.es c args xs G hx).1 (I.es c (kwVals kws) ys G hy).1
  · split at h
    · simp only [Option.bind_eq_some_iff] at h
      obtain ⟨b, hb, h⟩ := h
      split at h
      · cases h
      · rename_i hne
        simp only [Option.bind_eq_some_iff] at h
        obtain ⟨xs, hx, e⟩ := h
        cases e
        exact o_bi hb hg hp hne (I.es c args xs G hx).1
    · cases h
theorem ih_src {n : Nat} (I : IH P w K mg base Γ lv n) (c : CC) (e tg : Expr) (ir : Src) (G : GO P w K mg base c Γ lv) (h : cSrc (n + 1) c e tg = some ir) : SOk P w K mg base Γ lv c e tg ir := by
  have gen : ∀ e, (cE n c e).bind (fun x => some (Src.ex x)) = some ir → SOk P w K mg base Γ lv c e tg ir := fun e h => by
    simp only [Option.bind_eq_some_iff] at h
    obtain ⟨x, hx, e2⟩ := h
    cases e2
    exact o_srcE (I.e c e x G hx).v
  unfold cSrc at h
  split at h
  · split at h
    · rename_i hg
      rw [Bool.and_eq_true] at hg
      obtain ⟨hg, hp⟩ := hg
      split at h
      · rename_i hf
        have hf := eq_of_beq hf
        subst hf
        split at h
        · rename_i hl
          have hl := of_decide_eq_true hl
          simp only [Option.bind_eq_some_iff] at h
          obtain ⟨xs, hx, e⟩ := h
          cases e
          exact o_srcR hg hp hl (I.es c _ xs G hx).1
        · cases h
      · split at h
        · rename_i hf
          have hf := eq_of_beq hf
          subst hf
          split at h
          · simp only [Option.bind_eq_some_iff] at h
            obtain ⟨x, hx, e⟩ := h
            cases e
            exact o_srcN hg hp (I.e c _ x G hx).v
          · cases h
        · split at h
          · rename_i hf
            have hf := eq_of_beq hf
            subst hf
            split at h
            · simp only [Option.bind_eq_some_iff] at h
              obtain ⟨x, hx, y, hy, e⟩ := h
              cases e
              exact o_srcZ hg hp (I.e c _ x G hx).v (I.e c _ y G hy).v
            · cases h
          · exact gen _ h
    · cases h
  · exact gen _ h
theorem ih_t {n : Nat} (I : IH P w K mg base Γ lv n) (c : CC) (e : Expr) (ir : Tg) (G : GO P w K mg base c Γ lv) (h : cT (n + 1) c e = some ir) : GOk P w K mg base Γ lv c e ir := by
  unfold cT at h
  split at h
  · simp only [Option.bind_eq_some_iff] at h
    obtain ⟨i, hi, e⟩ := h
    cases e
    exact o_tgN hi
  · split at h
    · rename_i hp
      simp only [Option.bind_eq_some_iff] at h
      obtain ⟨ts, hts, e⟩ := h
      cases e
      exact o_tgT hp (I.ts c _ ts G hts)
    · cases h
  · cases h
  · rename_i hn
    simp only [Option.bind_eq_some_iff] at h
    obtain ⟨i, hi, y, hy, e⟩ := h
    cases e
    exact o_tgS (fun l u s p z => by subst z; simp at hn; exact hn _ _ _ _ rfl rfl rfl rfl) hi (I.e c _ y G hy).v
  · cases h
theorem ih_ts {n : Nat} (I : IH P w K mg base Γ lv n) (c : CC) (es : List Expr) (irs : Tgs) (G : GO P w K mg base c Γ lv) (h : cTs (n + 1) c es = some irs) : GsOk P w K mg base Γ lv c es irs := by
  cases es with
  | nil =>
    simp only [cTs] at h
    cases h
    exact o_tgNil
  | cons e es =>
    simp only [cTs, Option.bind_eq_some_iff] at h
    obtain ⟨t, ht, ts, hts, e2⟩ := h
    cases e2
    exact o_tgCons (I.t c e t G ht) (I.ts c es ts G hts)
theorem ih_all : ∀ n : Nat, IH P w K mg base Γ lv n
  | 0 => ih_zero
  | n + 1 => by
    have I := ih_all n
    exact ⟨ih_e I, ih_bl I, ih_cmp I, ih_sub I, ih_lc I, ih_nm I, ih_rg I, ih_zp I, ih_ls I, ih_mt I, ih_es I, ih_o I, ih_call I, ih_src I, ih_t I, ih_ts I⟩
end
end Pd

/-! statements -/
namespace Pd
open PySem PySem.Spec PyProof.Rows L2

def TSok (K : PySem.W.Frag) (t : TS) (f : EnvD → Option Out) : Prop :=
  ∀ (R : RR) (G0 G H : Hp) (env : EnvD) (σ : L2.St) (out : Out) (D : Ends), SR K R G0 G H env σ [] → f env = some out →
    (∀ env' σ' G' H', out = .nx env' → Same G G' → SR K R G0 G' H' env' σ' [] → D.nx σ' H') →
    (∀ r env' v σ' G' H', out = .rt r env' → Same G G' → SR K R G0 G' H' env' σ' [(r.opd, v)] → D.rt v H') → t D σ H
theorem noSl_nil : NoSl [] := fun p hp => by cases hp
section
variable {K : PySem.W.Frag} {R : RR} {G0 G H : Hp} {env env' : EnvD} {σ : L2.St} {tmp : Tmp} {o : Opd} {v : V} {d : PyData}

theorem sk_next : TSok K tNext (fun env => some (.nx env)) := by
  intro R G0 G H env σ out D S e qn qr
  cases e
  exact qn _ _ G H rfl (Same.refl _) S
theorem sk_seq {t u : TS} {f g : EnvD → Option Out} (h1 : TSok K t f) (h2 : TSok K u g) : TSok K (tSeq t u) (fun env => (f env).bind fun o => match o with
    | .nx e => g e
    | .rt r e => some (.rt r e)) := by
  intro R G0 G H env σ out D S e qn qr
  rw [Option.bind_eq_some_iff] at e
  obtain ⟨o1, e1, e⟩ := e
  refine h1 R G0 G H env σ o1 _ S e1 (fun env' σ' G' H' ho g1 S1 => ?_) fun r env' v σ' G' H' ho g1 S1 => ?_
  · subst ho
    exact h2 R G0 G' H' env' σ' out D S1 e (fun env2 σ2 G2 H2 ho g2 S2 => qn env2 σ2 G2 H2 ho (g1.trans g2) S2) fun r env2 v σ2 G2 H2 ho g2 S2 => qr r env2 v σ2 G2 H2 ho (g1.trans g2) S2
  · subst ho
    cases e
    exact qr r env' v σ' G' H' rfl g1 S1
theorem sk_drop {te : TE} {f : EnvD → Option (Opd × EnvD)} (h : TEok K te f) : TSok K (tDrop te) (fun env => (f env).bind fun p => some (.nx p.2)) := by
  intro R G0 G H env σ out D S e qn qr
  rw [Option.bind_eq_some_iff] at e
  obtain ⟨⟨o, e1⟩, h1, e⟩ := e
  cases e
  exact h _ _ _ _ _ _ _ _ _ _ S h1 fun v G1 H1 g1 S1 => qn _ _ G1 H1 rfl g1 S1.pop
theorem SR.putAny {i : Nat} (S : SR K R G0 G H env σ [(o, v)]) (hi : i < env.length) (ho : ∀ j, o ≠ .sl j) : SR K R G0 G H (env.set i o.cell) (σ.set i (some v)) [] := S.store noSl_nil hi ho
theorem sk_asg {i : Nat} {mv : Bool} {te : TE} {f : EnvD → Option (Opd × EnvD)} (h : TEok K te f) : TSok K (tAsg te (gName i)) (fun env => (f env).bind fun p => if i < p.2.length then (match p.1 with
    | .sl j => match mv with
      | false => (Pd.frz p.2 (.sl j)).bind fun q => some (.nx (q.2.set i (.va q.1)))
      | true => match p.2[j]? with
        | some (.ow ds) => some (.nx ((p.2.set j .no).set i (.ow ds)))
        | _ => none
    | .va d => some (.nx (p.2.set i (.va d)))
    | .ow ds => some (.nx (p.2.set i (.ow ds)))) else none) := by
  intro R G0 G H env σ out D S e qn qr
  rw [Option.bind_eq_some_iff] at e
  obtain ⟨⟨o, e1⟩, h1, e⟩ := e
  refine h _ _ _ _ _ _ _ _ _ _ S h1 fun v G1 H1 g1 S1 => ?_
  split at e
  · rename_i hi
    cases o with
    | va d =>
      cases e
      exact qn _ _ G1 H1 rfl g1 (S1.putAny hi fun j z => by cases z)
    | ow ds =>
      cases e
      exact qn _ _ G1 H1 rfl g1 (S1.putAny hi fun j z => by cases z)
    | sl j =>
      cases mv with
      | false =>
        dsimp only at e
        rw [Option.bind_eq_some_iff] at e
        obtain ⟨⟨d, e2⟩, h2, e⟩ := e
        cases e
        obtain ⟨G2, g2, S2, r⟩ := S1.frz h2
        have hl : i < e2.length := by
          have z1 := S1.len
          have z2 := S2.len
          have hi : i < e1.length := hi
          omega
        exact qn _ _ G2 H1 rfl (g1.trans g2) ((S2.pushVa r).putAny hl fun j z => by cases z)
      | true =>
        dsimp only at e
        split at e
        · rename_i ds hj
          cases e
          have S2 := S1.move hj
          exact qn _ _ G1 H1 rfl g1 (S2.putAny (by rw [List.length_set]; exact hi) fun j z => by cases z)
        · cases e
  · cases e
theorem sk_asgT {te : TE} {g : TG} {ix : List Nat} {f : EnvD → Option (Opd × EnvD)} {ft : PyData → EnvD → Option EnvD} (h : TEok K te f) (hg : TGok K g ix ft) : TSok K (tAsg te g) (fun env => (f env).bind fun p => (Pd.frz p.2 p.1).bind fun q => (ft q.1 q.2).bind fun e => some (.nx e)) := by
  intro R G0 G H env σ out D S e qn qr
  simp only [Option.bind_eq_some_iff] at e
  obtain ⟨⟨o, e1⟩, h1, ⟨d, e2⟩, h2, e3, h3, e⟩ := e
  cases e
  refine h _ _ _ _ _ _ _ _ _ _ S h1 fun v G1 H1 g1 S1 => ?_
  obtain ⟨G2, g2, S2, r⟩ := S1.frz h2
  exact hg _ _ _ _ _ _ _ _ _ _ _ S2 noSl_nil r h3 fun σ' G' H' g3 w S3 => qn _ _ G' H' rfl (g1.trans (g2.trans g3)) S3
theorem sk_ret {te : TE} {f : EnvD → Option (Opd × EnvD)} (h : TEok K te f) : TSok K (tRet te) (fun env => (f env).bind fun p => match p.1 with
    | .va d => some (.rt (.va d) p.2)
    | .ow ds => some (.rt (.ow ds) p.2)
    | .sl j => match p.2[j]? with
      | some (.ow ds) => some (.rt (.ow ds) (p.2.set j .no))
      | _ => none) := by
  intro R G0 G H env σ out D S e qn qr
  rw [Option.bind_eq_some_iff] at e
  obtain ⟨⟨o, e1⟩, h1, e⟩ := e
  refine h _ _ _ _ _ _ _ _ _ _ S h1 fun v G1 H1 g1 S1 => ?_
  cases o with
  | va d =>
    cases e
    exact qr _ _ v σ G1 H1 rfl g1 S1
  | ow ds =>
    cases e
    exact qr _ _ v σ G1 H1 rfl g1 S1
  | sl j =>
    dsimp only at e
    split at e
    · rename_i ds hj
      cases e
      exact qr _ _ v σ G1 H1 rfl g1 (S1.move hj)
    · cases e
theorem sk_retN : TSok K tRetN (fun env => some (.rt (.va .none) env)) := by
  intro R G0 G H env σ out D S e qn qr
  cases e
  exact qr _ _ _ σ G H rfl (Same.refl _) (S.pushVa .non)
theorem sk_if {tc : TT} {t u : TS} {fc : EnvD → Option (Opd × EnvD)} {f g : EnvD → Option Out} (hc : TTok K tc (fT fc)) (h1 : TSok K t f) (h2 : TSok K u g) : TSok K (tIfS tc t u) (fun env => (fc env).bind fun p => (truth p.1).bind fun t => match t with
    | true => f p.2
    | false => g p.2) := by
  intro R G0 G H env σ out D S e qn qr
  simp only [Option.bind_eq_some_iff] at e
  obtain ⟨⟨o, e1⟩, hh, t, ht, e⟩ := e
  have z1 : fT fc env = some (t, e1) := by
    unfold fT
    simp only [Option.bind_eq_some_iff]
    exact ⟨_, hh, t, ht, rfl⟩
  refine hc _ _ _ _ _ _ _ _ _ _ S z1 fun G1 H1 g1 S1 => ?_
  cases t with
  | true => exact h1 R G0 G1 H1 e1 σ out D S1 e (fun env2 σ2 G2 H2 ho g2 S2 => qn env2 σ2 G2 H2 ho (g1.trans g2) S2) fun r env2 v σ2 G2 H2 ho g2 S2 => qr r env2 v σ2 G2 H2 ho (g1.trans g2) S2
  | false => exact h2 R G0 G1 H1 e1 σ out D S1 e (fun env2 σ2 G2 H2 ho g2 S2 => qn env2 σ2 G2 H2 ho (g1.trans g2) S2) fun r env2 v σ2 G2 H2 ho g2 S2 => qr r env2 v σ2 G2 H2 ho (g1.trans g2) S2
theorem sk_whl {n : Nat} {tc : TT} {t : TS} {fc : EnvD → Option (Opd × EnvD)} {f : EnvD → Option Out} (hc : TTok K tc (fT fc)) (h1 : TSok K t f) : TSok K (tWhile tc t) (fun env => whlL (fun e => (fc e).bind fun p => (truth p.1).bind fun t => some (t, p.2)) f n env) := by
  intro R G0 G H env σ out D S e qn qr
  refine ⟨fun m σ H => ∃ G' env', Same G G' ∧ SR K R G0 G' H env' σ [] ∧ whlL (fun e => (fc e).bind fun p => (truth p.1).bind fun t => some (t, p.2)) f m env' = some out, ⟨n, G, env, Same.refl _, S, e⟩, ?_⟩
  rintro m σ1 H1 ⟨G1, env1, g1, S1, e1⟩
  cases m with
  | zero => cases e1
  | succ m =>
    unfold whlL at e1
    rw [Option.bind_eq_some_iff] at e1
    obtain ⟨⟨b, e2⟩, z1, e1⟩ := e1
    refine hc _ _ _ _ _ _ _ _ _ _ S1 z1 fun G2 H2 g2 S2 => ?_
    cases b with
    | true =>
      rw [if_pos rfl]
      dsimp only at e1
      rw [Option.bind_eq_some_iff] at e1
      obtain ⟨o3, z3, e1⟩ := e1
      refine ⟨fun σ' H' => ∃ G' env', Same G G' ∧ SR K R G0 G' H' env' σ' [] ∧ whlL (fun e => (fc e).bind fun p => (truth p.1).bind fun t => some (t, p.2)) f m env' = some out, fun σ' H' z => ⟨m, Nat.lt_succ_self m, z⟩, ?_⟩
      refine h1 R G0 G2 H2 e2 σ1 o3 _ S2 z3 (fun env3 σ3 G3 H3 ho g3 S3 => ?_) fun r env3 v σ3 G3 H3 ho g3 S3 => ?_
      · subst ho
        exact ⟨G3, env3, g1.trans (g2.trans g3), S3, e1⟩
      · subst ho
        cases e1
        exact qr r env3 v σ3 G3 H3 rfl (g1.trans (g2.trans g3)) S3
    | false =>
      rw [if_neg Bool.false_ne_true]
      cases e1
      exact qn _ _ G2 H2 rfl (g1.trans g2) S2
theorem sk_for {wi : TI} {g : TG} {ix : List Nat} {t : TS} {fs : EnvD → Option (List PyData × EnvD)} {ft : PyData → EnvD → Option EnvD} {f : EnvD → Option Out} (hs : TIok K wi fs) (hg : TGok K g ix ft) (h1 : TSok K t f) :
    TSok K (tFor wi g t) (fun env => (fs env).bind fun p => forL ft f p.1 p.2) := by
  intro R G0 G H env σ out D S e qn qr
  rw [Option.bind_eq_some_iff] at e
  obtain ⟨⟨ds, e1⟩, z1, e⟩ := e
  refine hs _ _ _ _ _ _ _ _ _ _ S z1 fun J G1 H1 g1 S1 ok => ?_
  refine ⟨fun i m σ H => m = ds.length - i ∧ i ≤ ds.length ∧ ∃ G' env', Same G1 G' ∧ SR K R G0 G' H env' σ [] ∧ forL ft f (ds.drop i) env' = some out, ⟨ds.length, rfl, Nat.zero_le _, G1, e1, Same.refl _, S1, by rw [List.drop_zero]; exact e⟩, ?_⟩
  rintro i m σ2 H2 ⟨rfl, hi, G2, env2, g2, S2, e2⟩
  by_cases hlt : i < ds.length
  · refine .inr ⟨ok.go i H2 (g2.trans S2.gh) hlt, fun σ' H' => ∃ G' env', Same G1 G' ∧ SR K R G0 G' H' env' σ' [] ∧ forL ft f (ds.drop (i + 1)) env' = some out, fun σ' H' z => ⟨ds.length - (i + 1), by omega, rfl, hlt, z⟩, fun x H' y => ?_⟩
    rw [List.drop_eq_getElem_cons hlt] at e2
    unfold forL at e2
    simp only [Option.bind_eq_some_iff] at e2
    obtain ⟨e3, z3, o4, z4, e2⟩ := e2
    obtain ⟨G3, g3, S3, r3⟩ := S2.yld g2 ok (d := ds[i]) (List.getElem?_eq_getElem hlt) y
    refine hg _ _ _ _ _ _ _ _ _ _ _ S3 noSl_nil r3 z3 fun σ4 G4 H4 g4 w4 S4 => ?_
    refine h1 R G0 G4 H4 e3 σ4 o4 _ S4 z4 (fun env5 σ5 G5 H5 ho g5 S5 => ?_) fun r env5 v σ5 G5 H5 ho g5 S5 => ?_
    · subst ho
      exact ⟨G5, env5, g2.trans (g3.trans (g4.trans g5)), S5, e2⟩
    · subst ho
      cases e2
      exact qr r env5 v σ5 G5 H5 rfl (g1.trans (g2.trans (g3.trans (g4.trans g5)))) S5
  · have hd : ds.drop i = [] := List.drop_eq_nil_of_le (by omega)
    rw [hd] at e2
    cases e2
    exact .inl ⟨ok.stop i H2 (g2.trans S2.gh) (by omega), qn _ _ G2 H2 rfl (g1.trans g2) S2⟩

/-! several names at once -/
theorem frzSl_ok : ∀ (os : List Opd) (vs : List V) (G : Hp) (env : EnvD) (os' : List Opd) (env' : EnvD), SR K R G0 G H env σ (os.zip vs ++ tmp) → os.length = vs.length → frzSl env os = some (os', env') → ∃ G', Same G G' ∧ os'.length = vs.length ∧ SR K R G0 G' H env' σ (os'.zip vs ++ tmp) ∧ ∀ o ∈ os', ∀ j, o ≠ .sl j := by
  intro os
  induction os generalizing tmp with
  | nil =>
    intro vs G env os' env' S hl h
    cases h
    exact ⟨G, Same.refl _, hl, S, fun o ho => by cases ho⟩
  | cons o os ih =>
    intro vs G env os' env' S hl h
    cases vs with
    | nil => cases hl
    | cons v vs =>
      have go : ∀ (G1 : Hp) (o1 : Opd) (env1 : EnvD), Same G G1 → (∀ j, o1 ≠ .sl j) → SR K R G0 G1 H env1 σ ((o1, v) :: (os.zip vs ++ tmp)) → ∀ q, frzSl env1 os = some q → os' = o1 :: q.1 → env' = q.2 → ∃ G', Same G G' ∧ os'.length = (v :: vs).length ∧ SR K R G0 G' H env' σ (os'.zip (v :: vs) ++ tmp) ∧ ∀ o ∈ os', ∀ j, o ≠ .sl j := by
        intro G1 o1 env1 g1 n1 S1 q hq e1 e2
        subst e1
        subst e2
        have S2 : SR K R G0 G1 H env1 σ (os.zip vs ++ ((o1, v) :: tmp)) := S1.perm List.perm_middle.symm
        obtain ⟨G2, g2, l2, S3, n2⟩ := ih vs G1 env1 q.1 q.2 S2 (by simpa using hl) hq
        refine ⟨G2, g1.trans g2, by simp [l2], S3.perm List.perm_middle, fun o ho => ?_⟩
        rcases List.mem_cons.mp ho with z | z
        · subst z
          exact n1
        · exact n2 o z
      cases o with
      | va d =>
        have h : (frzSl env os).bind (fun q => some (Opd.va d :: q.1, q.2)) = some (os', env') := h
        rw [Option.bind_eq_some_iff] at h
        obtain ⟨q, hq, e⟩ := h
        cases e
        exact go G (.va d) env (Same.refl _) (fun j z => by cases z) S q hq rfl rfl
      | ow ds =>
        have h : (frzSl env os).bind (fun q => some (Opd.ow ds :: q.1, q.2)) = some (os', env') := h
        rw [Option.bind_eq_some_iff] at h
        obtain ⟨q, hq, e⟩ := h
        cases e
        exact go G (.ow ds) env (Same.refl _) (fun j z => by cases z) S q hq rfl rfl
      | sl i =>
        have h : (Pd.frz env (.sl i)).bind (fun p => (frzSl p.2 os).bind fun q => some (Opd.va p.1 :: q.1, q.2)) = some (os', env') := h
        simp only [Option.bind_eq_some_iff] at h
        obtain ⟨p, hp, q, hq, e⟩ := h
        cases e
        obtain ⟨G1, g1, S1, r1⟩ := S.frz hp
        exact go G1 (.va p.1) p.2 g1 (fun j z => by cases z) (S1.pushVa r1) q hq rfl rfl
/-- σ with several names stored -/
def setAllV : List Nat → List V → L2.St → L2.St
  | i :: is, v :: vs, σ => setAllV is vs (σ.set i (some v))
  | _, _, σ => σ
theorem setAll_ok : ∀ (is : List Nat) (os : List Opd) (vs : List V) (env : EnvD) (σ : L2.St) (env' : EnvD), SR K R G0 G H env σ (os.zip vs ++ []) → os.length = vs.length → (∀ o ∈ os, ∀ j, o ≠ .sl j) → setAll is os env = some env' → is.length = vs.length ∧ SR K R G0 G H env' (setAllV is vs σ) [] := by
  intro is
  induction is with
  | nil =>
    intro os vs env σ env' S hl hn h
    cases os with
    | nil =>
      cases h
      cases vs with
      | nil => exact ⟨rfl, S⟩
      | cons _ _ => cases hl
    | cons _ _ => cases h
  | cons i is ih =>
    intro os vs env σ env' S hl hn h
    cases os with
    | nil => cases h
    | cons o os =>
      cases vs with
      | nil => cases hl
      | cons v vs =>
        unfold setAll at h
        split at h
        · rename_i hi
          have ns : NoSl (os.zip vs ++ []) := fun p hp j e => by
            rw [List.append_nil] at hp
            exact hn p.1 (List.mem_cons_of_mem _ (List.of_mem_zip hp).1) j e
          have S1 := S.store (tmp := os.zip vs ++ []) ns hi (hn o List.mem_cons_self)
          obtain ⟨l, S2⟩ := ih os vs _ _ _ S1 (by simpa using hl) (fun o ho => hn o (List.mem_cons_of_mem _ ho)) h
          exact ⟨by simp [l], S2⟩
        · cases h
/-- the pair is not tracked: two or three names, stored from behind -/
def tParN (is : List Nat) (ta : TA) : TS := match is with
  | [i, j] => tPar i j ta
  | [i, j, l] => tPar3 i j l ta
  | _ => fun _ _ _ => False
theorem sk_par {is : List Nat} {ta : TA} {f : EnvD → Option (List Opd × EnvD)} (h2 : is.length = 2 ∨ is.length = 3) (h : TAok K ta f) : TSok K (tParN is ta) (fun env => (f env).bind fun p => (frzSl p.2 p.1).bind fun q => (setAll is q.1 q.2).bind fun e => some (.nx e)) := by
  intro R G0 G H env σ out D S e qn qr
  simp only [Option.bind_eq_some_iff] at e
  obtain ⟨⟨os, e1⟩, z1, ⟨os', e2⟩, z2, e3, z3, e⟩ := e
  cases e
  have main : ∀ (vs : List V) (G1 H1 : Hp), os.length = vs.length → Same G G1 → SR K R G0 G1 H1 e1 σ (os.zip vs ++ []) → is.length = vs.length ∧ D.nx (setAllV is vs σ) H1 := fun vs G1 H1 l1 g1 S1 => by
    obtain ⟨G2, g2, l2, S2, n2⟩ := frzSl_ok os vs G1 e1 os' e2 S1 l1 z2
    obtain ⟨l3, S3⟩ := setAll_ok is os' vs e2 σ e3 S2 l2 n2 z3
    exact ⟨l3, qn _ _ G2 H1 rfl (g1.trans g2) S3⟩
  match is, h2, main with
  | [i, j], _, main =>
    refine h _ _ _ _ _ _ _ _ _ _ S z1 fun vs G1 H1 l1 g1 S1 => ?_
    obtain ⟨l, q⟩ := main vs G1 H1 l1 g1 S1
    match vs, l, q with
    | [v, w], _, q => exact ⟨v, w, rfl, q⟩
    | [], l, _ => cases l
    | [_], l, _ => cases l
    | _ :: _ :: _ :: _, l, _ => simp at l
  | [i, j, l], _, main =>
    refine h _ _ _ _ _ _ _ _ _ _ S z1 fun vs G1 H1 l1 g1 S1 => ?_
    obtain ⟨l, q⟩ := main vs G1 H1 l1 g1 S1
    match vs, l, q with
    | [u, v, w], _, q => exact ⟨u, v, w, rfl, q⟩
    | [], l, _ => cases l
    | [_], l, _ => cases l
    | [_, _], l, _ => cases l
    | _ :: _ :: _ :: _ :: _, l, _ => simp at l
  | [], h2, _ => exact absurd h2 (by decide)
  | [_], h2, _ => exact absurd h2 (by simp)
  | _ :: _ :: _ :: _ :: _, h2, _ => exact absurd h2 (by simp)
def gNames : List Nat → TGs
  | [] => gNil
  | i :: is => gCons (gName i) (gNames is)
theorem gNames_ok : ∀ (is : List Nat) (vs : List V) (σ : L2.St) (H : Hp) (Q : L2.St → Hp → Prop), is.length = vs.length → Q (setAllV is vs σ) H → gNames is vs σ H Q
  | [], [], σ, H, Q, _, q => ⟨rfl, q⟩
  | i :: is, v :: vs, σ, H, Q, l, q => ⟨v, vs, rfl, gNames_ok is vs _ H Q (by simpa using l) q⟩
  | [], _ :: _, _, _, _, l, _ => by cases l
  | _ :: _, [], _, _, _, l, _ => by cases l
theorem sk_parT {is : List Nat} {ta : TA} {f : EnvD → Option (List Opd × EnvD)} (h2 : is.length ≤ 100) (h : TAok K ta f) : TSok K (tAsg (tTup ta) (gTup K is.length (gNames is))) (fun env => (f env).bind fun p => (frzSl p.2 p.1).bind fun q => (setAll is q.1 q.2).bind fun e => some (.nx e)) := by
  intro R G0 G H env σ out D S e qn qr
  simp only [Option.bind_eq_some_iff] at e
  obtain ⟨⟨os, e1⟩, z1, ⟨os', e2⟩, z2, e3, z3, e⟩ := e
  cases e
  refine h _ _ _ _ _ _ _ _ _ _ S z1 fun vs G1 H1 l1 g1 S1 => ?_
  obtain ⟨G2, g2, l2, S2, n2⟩ := frzSl_ok os vs G1 e1 os' e2 S1 l1 z2
  obtain ⟨l3, S3⟩ := setAll_ok is os' vs e2 σ e3 S2 l2 n2 z3
  refine ⟨by
    have z : sizeLine = 16777216 := rfl
    omega, fun p hp => ⟨p, vs, rfl, SqT.of upd_same, l3.symm, gNames_ok is vs σ _ _ l3 (qn _ _ G2 _ rfl (g1.trans g2) (S3.grow (same_new hp)))⟩⟩
end
end Pd

/-! the reading is right: statements -/
namespace Pd
open PySem PySem.Spec PyProof.Rows L2

theorem blockKind_fn {env : Env} (h : env.scope.kind = .function) : env.blockKind = .function := by
  unfold Env.blockKind
  rw [h]
  rfl
theorem fnSc {sc : Scope} (h : isFnSc sc = true) : sc.kind = .function := by
  unfold isFnSc at h
  split at h
  · assumption
  · cases h
theorem swapR_ok {env : Env} {ts vs : List Expr} {k k2 : Nat} {p p2 : Pos} {r : Option (List Str)} (hk : env.scope.kind = .function) (h : swapR env.scope ts vs = some r) : swappedStores [.Tuple ts k p] (.Tuple vs k2 p2) env = pure r := by
  have hb := blockKind_fn hk
  unfold swapR at h
  unfold swappedStores
  dsimp only
  have hb' : (env.blockKind != ScopeKind.function) = false := by
    rw [hb]
    rfl
  simp only [hb', Bool.or_false]
  split at h
  · rename_i c1
    cases h
    rw [if_pos c1]
  · rename_i c1
    rw [if_neg c1]
    split at h
    · rename_i c2
      cases h
      exact if_pos c2
    · rename_i c2
      refine (if_neg c2).trans ?_
      dsimp only at h
      split at h
      · rename_i c3
        cases h
        exact if_pos c3
      · rename_i c3
        refine (if_neg c3).trans ?_
        split at h
        · rename_i c4
          cases h
          exact if_pos c4
        · rename_i c4
          refine (if_neg c4).trans ?_
          split at h
          · cases h
          · rename_i c5
            refine (if_neg c5).trans ?_
            cases h
            rfl
theorem two_len {α : Type} {o1 o2 : Option α} : (o1.toList ++ o2.toList).length = 2 → ∃ a b, o1 = some a ∧ o2 = some b := by
  cases o1 <;> cases o2 <;> simp
theorem if_local {sc : Scope} {x : Str} {b : Bool} {y : Str} (h : (if (sc.names.lookup x == some NameKind.local && b) = true then some x else none) = some y) : y = x ∧ sc.names.lookup x = some .local := by
  split at h
  · rename_i c
    cases h
    rw [Bool.and_eq_true] at c
    exact ⟨rfl, eq_of_beq c.1⟩
  · cases h
theorem swapR_len {sc : Scope} {ts vs : List Expr} {ns : List Str} (h : swapR sc ts vs = some (some ns)) : (ts.length = 2 ∨ ts.length = 3) ∧ vs.length = ts.length ∧ ns.length = ts.length ∧ ns = ts.filterMap (fun t => match t with
      | .Name id pos => if (sc.names.lookup id == some NameKind.local && pos.line == (ts.head?.map (·.pos.line)).getD 0) = true then some id else none
      | _ => none) := by
  unfold swapR at h
  split at h
  · cases h
  · rename_i c1
    split at h
    · cases h
    · dsimp only at h
      split at h
      · cases h
      · rename_i c3
        split at h
        · cases h
        · split at h
          · cases h
          · cases h
            simp only [Bool.or_eq_true, Bool.not_eq_true', not_or, bne_iff_ne, ne_eq, Decidable.not_not, beq_iff_eq, Bool.not_eq_false] at c1 c3
            exact ⟨c1.1, c1.2, c3.1, rfl⟩
theorem name_at {sc : Scope} {l : Nat} {ts : List Expr} {xs : List Str} : nameList ts = some xs → (ts.filterMap (fun t => match t with
      | .Name id pos => if (sc.names.lookup id == some NameKind.local && pos.line == l) = true then some id else none
      | _ => none)).length = ts.length → ts.filterMap (fun t => match t with
      | .Name id pos => if (sc.names.lookup id == some NameKind.local && pos.line == l) = true then some id else none
      | _ => none) = xs ∧ ∀ x ∈ xs, sc.names.lookup x = some .local := by
  induction ts generalizing xs with
  | nil =>
    intro h _
    cases h
    exact ⟨rfl, fun x hx => by cases hx⟩
  | cons t ts ih =>
    intro h hl
    cases t with
    | Name x p =>
      have h : (nameList ts).bind (fun xs => some (x :: xs)) = some xs := h
      rw [Option.bind_eq_some_iff] at h
      obtain ⟨ys, h1, e⟩ := h
      cases e
      rw [List.filterMap_cons] at hl ⊢
      dsimp only at hl ⊢
      by_cases c : (sc.names.lookup x == some NameKind.local && p.line == l) = true
      · rw [if_pos c] at hl ⊢
        obtain ⟨e, q⟩ := ih h1 (by simpa using hl)
        refine ⟨by rw [← e], fun y hy => ?_⟩
        rcases List.mem_cons.mp hy with z | z
        · subst z
          rw [Bool.and_eq_true] at c
          exact eq_of_beq c.1
        · exact q y z
      · rw [if_neg c] at hl
        have key : ∀ (f : Expr → Option Str), (ts.filterMap f).length ≤ ts.length := fun f => List.length_filterMap_le f ts
        exact absurd (Nat.le_trans (Nat.le_of_eq hl.symm) (key _)) (by simp)
    | _ => cases h
theorem nameList_eq : ∀ {ts : List Expr} {xs : List Str}, nameList ts = some xs → plainArgs ts = true ∧ ts.length = xs.length ∧ ∀ (i : Nat) (x : Str), xs[i]? = some x → ∃ p, ts[i]? = some (.Name x p)
  | [], xs, h => by
    cases h
    exact ⟨rfl, rfl, fun i x e => by simp at e⟩
  | t :: ts, xs, h => by
    cases t with
    | Name x p =>
      have h : (nameList ts).bind (fun xs => some (x :: xs)) = some xs := h
      rw [Option.bind_eq_some_iff] at h
      obtain ⟨ys, h1, e⟩ := h
      cases e
      obtain ⟨a, b, d⟩ := nameList_eq h1
      refine ⟨a, by simp [b], fun i y e => ?_⟩
      cases i with
      | zero =>
        cases e
        exact ⟨p, rfl⟩
      | succ i => exact d i y e
    | _ => cases h
theorem mapM_slots {c : CC} : ∀ {xs : List Str} {is : List Nat}, xs.mapM (slotS c) = some is → is.length = xs.length ∧ ∀ (i : Nat) (x : Str), xs[i]? = some x → ∃ j, is[i]? = some j ∧ slotS c x = some j
  | [], is, h => by
    simp at h
    subst h
    exact ⟨rfl, fun i x e => by simp at e⟩
  | x :: xs, is, h => by
    rw [List.mapM_cons] at h
    have h : (slotS c x).bind (fun a => (xs.mapM (slotS c)).bind fun r => some (a :: r)) = some is := h
    simp only [Option.bind_eq_some_iff] at h
    obtain ⟨j, h1, js, h2, e⟩ := h
    cases e
    obtain ⟨a, b⟩ := mapM_slots h2
    refine ⟨by simp [a], fun i y e => ?_⟩
    cases i with
    | zero =>
      cases e
      exact ⟨j, rfl, h1⟩
    | succ i => exact b i y e
section
variable (P : Program) (w : World) (K : PySem.W.Frag) (mg : Str → Option Value) (base : Heap) (Γ : Tab) (lv n : Nat)
def StOk (c : CC) (s : Stmt) (ir : Sm) : Prop := ∃ t, TSok K t (exS Γ n ir) ∧ ∀ X, XO P w K mg base Γ lv c X → PS X s t
def StsOk (c : CC) (s : List Stmt) (ir : Sms) : Prop := ∃ t, TSok K t (exSs Γ n ir) ∧ ∀ X, XO P w K mg base Γ lv c X → PSs X s t
end
section
variable {P : Program} {w : World} {K : PySem.W.Frag} {mg : Str → Option Value} {base : Heap} {Γ : Tab} {lv n : Nat} {c : CC}
theorem s_par {ts vs : List Expr} {xs : List Str} {is : List Nat} {irs : Exs} {sw : Option (List Str)} {k k2 : Nat} {p p2 pos : Pos} (hf : isFnSc c.sc = true) (hx : nameList ts = some xs) (hsw : swapR c.sc ts vs = some sw) (hnd : xs.Nodup) (hl : xs.length = vs.length) (h100 : xs.length ≤ 100) (his : xs.mapM (slotS c) = some is) (hp : plainArgs vs = true)
    (h : AOk P w K mg base Γ lv c vs irs) : StOk P w K mg base Γ lv n c (.Assign [.Tuple ts k p] (.Tuple vs k2 p2) pos) (.par is irs) := by
  obtain ⟨ta, h1, h2, h3, _⟩ := h
  obtain ⟨pt, lt, at_⟩ := nameList_eq hx
  obtain ⟨li, ai⟩ := mapM_slots his
  cases sw with
  | none =>
    refine ⟨_, sk_parT (is := is) (by omega) h1, fun X O => ?_⟩
    have gs : ∀ (ts : List Expr) (xs : List Str) (is : List Nat), nameList ts = some xs → xs.mapM (slotS c) = some is → PGs X ts (gNames is) := by
      intro ts
      induction ts with
      | nil =>
        intro xs is h1 h2
        cases h1
        simp at h2
        subst h2
        exact pgs_nil
      | cons t ts ih =>
        intro xs is h1 h2
        have pl := (nameList_eq h1).1
        cases t with
        | Name x q =>
          have h5 : (nameList ts).bind (fun xs => some (x :: xs)) = some xs := h1
          rw [Option.bind_eq_some_iff] at h5
          obtain ⟨ys, h6, e⟩ := h5
          cases e
          rw [List.mapM_cons] at h2
          have h2 : (slotS c x).bind (fun a => (ys.mapM (slotS c)).bind fun r => some (a :: r)) = some is := h2
          simp only [Option.bind_eq_some_iff] at h2
          obtain ⟨j, h3, js, h4, e⟩ := h2
          cases e
          refine pgs_cons (O.tg h3) (ih ys js h6 h4) ?_
          rw [asg_plain X.env _ pl, asg_plain X.env _ (plainArgs_cons pl)]
          rfl
        | _ => cases h1
    have z := pg_tup (k := k) (pos := p) (n := ts.length) O.calm (gs ts xs is hx his) (by rw [asg_plain X.env ts pt, List.length_map]) (by rw [asg_plain X.env ts pt]; exact find_none _ ts)
    rw [O.hK, show ts.length = is.length by omega] at z
    refine ps_asg (pe_tup ((h2 X O).1 hp)) z rfl (swapR_ok (by rw [O.sc]; exact fnSc hf) (by rw [O.sc]; exact hsw)) rfl
  | some ns =>
    obtain ⟨l23, lv', ln, en⟩ := swapR_len hsw
    obtain ⟨en2, hloc⟩ := name_at (sc := c.sc) (l := (ts.head?.map (·.pos.line)).getD 0) hx (by rw [← en]; exact ln)
    have ens : ns = xs := by rw [en, en2]
    subst ens
    refine ⟨tParN is ta, sk_par (by omega) h1, fun X O => ?_⟩
    have hw := swapR_ok (env := X.env) (k := k) (k2 := k2) (p := p) (p2 := p2) (by rw [O.sc]; exact fnSc hf) (by rw [O.sc]; exact hsw)
    have ix : ∀ (i : Nat) (x : Str), ns[i]? = some x → ∃ j, is[i]? = some j ∧ X.N[j]? = some x ∧ X.env.scope.names.lookup x = some .local := fun i x e => by
      obtain ⟨j, e1, e2⟩ := ai i x e
      refine ⟨j, e1, by rw [O.N]; exact (slotS_at e2).1, by rw [O.sc]; exact hloc x (List.mem_of_getElem? e)⟩
    have ne : ∀ {x y : Str} {i j : Nat}, x ≠ y → X.N[i]? = some x → X.N[j]? = some y → i ≠ j := fun hxy e1 e2 e => by
      subst e
      rw [e1] at e2
      exact hxy (Option.some.inj e2)
    have ha := (h2 X O).1 hp
    rcases l23 with l2 | l3
    · match ts, vs, ns, is, l2, lv', lt, li, at_, ix, hnd, ha, hw with
      | [t1, t2], [a, b], [x, y], [i, j], _, _, _, _, at_, ix, hnd, ha, hw =>
        obtain ⟨p1, e1⟩ := at_ 0 x rfl
        obtain ⟨p2', e2⟩ := at_ 1 y rfl
        cases e1
        cases e2
        obtain ⟨i', z1, n1, v1⟩ := ix 0 x rfl
        obtain ⟨j', z2, n2, v2⟩ := ix 1 y rfl
        cases z1
        cases z2
        have hxy : x ≠ y := by
          intro e
          subst e
          simp at hnd
        exact ps_par O.calm (by rw [O.N]; exact O.nd) n1 n2 (ne hxy n1 n2) v1 v2 ha hw rfl
      | [_, _], [_, _], [_, _], [], _, _, _, li, _, _, _, _, _ => simp at li
      | [_, _], [_, _], [_, _], [_], _, _, _, li, _, _, _, _, _ => simp at li
      | [_, _], [_, _], [_, _], _ :: _ :: _ :: _, _, _, _, li, _, _, _, _, _ => simp at li
      | [_, _], [_, _], [], _, _, _, lt, _, _, _, _, _, _ => simp at lt
      | [_, _], [_, _], [_], _, _, _, lt, _, _, _, _, _, _ => simp at lt
      | [_, _], [_, _], _ :: _ :: _ :: _, _, _, _, lt, _, _, _, _, _, _ => simp at lt
      | [_, _], [], _, _, _, lv', _, _, _, _, _, _, _ => simp at lv'
      | [_, _], [_], _, _, _, lv', _, _, _, _, _, _, _ => simp at lv'
      | [_, _], _ :: _ :: _ :: _, _, _, _, lv', _, _, _, _, _, _, _ => simp at lv'
      | [], _, _, _, l2, _, _, _, _, _, _, _, _ => simp at l2
      | [_], _, _, _, l2, _, _, _, _, _, _, _, _ => simp at l2
      | _ :: _ :: _ :: _, _, _, _, l2, _, _, _, _, _, _, _, _ => simp at l2
    · match ts, vs, ns, is, l3, lv', lt, li, at_, ix, hnd, ha, hw with
      | [t1, t2, t3], [a, b, d], [x, y, z], [i, j, l], _, _, _, _, at_, ix, hnd, ha, hw =>
        obtain ⟨p1, e1⟩ := at_ 0 x rfl
        obtain ⟨p2', e2⟩ := at_ 1 y rfl
        obtain ⟨p3', e3⟩ := at_ 2 z rfl
        cases e1
        cases e2
        cases e3
        obtain ⟨i', z1, n1, v1⟩ := ix 0 x rfl
        obtain ⟨j', z2, n2, v2⟩ := ix 1 y rfl
        obtain ⟨l', z3, n3, v3⟩ := ix 2 z rfl
        cases z1
        cases z2
        cases z3
        have hxy : x ≠ y ∧ x ≠ z ∧ y ≠ z := by
          simp only [List.nodup_cons, List.mem_cons, List.not_mem_nil, or_false, not_or] at hnd
          exact ⟨hnd.1.1, hnd.1.2, hnd.2.1⟩
        exact ps_par3 O.calm (by rw [O.N]; exact O.nd) n1 n2 n3 (ne hxy.1 n1 n2) (ne hxy.2.1 n1 n3) (ne hxy.2.2 n2 n3) v1 v2 v3 ha hw rfl
      | [_, _, _], [_, _, _], [_, _, _], [], _, _, _, li, _, _, _, _, _ => simp at li
      | [_, _, _], [_, _, _], [_, _, _], [_], _, _, _, li, _, _, _, _, _ => simp at li
      | [_, _, _], [_, _, _], [_, _, _], [_, _], _, _, _, li, _, _, _, _, _ => simp at li
      | [_, _, _], [_, _, _], [_, _, _], _ :: _ :: _ :: _ :: _, _, _, _, li, _, _, _, _, _ => simp at li
      | [_, _, _], [_, _, _], [], _, _, _, lt, _, _, _, _, _, _ => simp at lt
      | [_, _, _], [_, _, _], [_], _, _, _, lt, _, _, _, _, _, _ => simp at lt
      | [_, _, _], [_, _, _], [_, _], _, _, _, lt, _, _, _, _, _, _ => simp at lt
      | [_, _, _], [_, _, _], _ :: _ :: _ :: _ :: _, _, _, _, lt, _, _, _, _, _, _ => simp at lt
      | [_, _, _], [], _, _, _, lv', _, _, _, _, _, _, _ => simp at lv'
      | [_, _, _], [_], _, _, _, lv', _, _, _, _, _, _, _ => simp at lv'
      | [_, _, _], [_, _], _, _, _, lv', _, _, _, _, _, _, _ => simp at lv'
      | [_, _, _], _ :: _ :: _ :: _ :: _, _, _, _, lv', _, _, _, _, _, _, _ => simp at lv'
      | [], _, _, _, l2, _, _, _, _, _, _, _, _ => simp at l2
      | [_], _, _, _, l2, _, _, _, _, _, _, _, _ => simp at l2
      | [_, _], _, _, _, l2, _, _, _, _, _, _, _, _ => simp at l2
      | _ :: _ :: _ :: _ :: _, _, _, _, l2, _, _, _, _, _, _, _, _ => simp at l2
end
end Pd

/-! own lists made longer one by one -/
namespace Pd
open PySem PySem.Spec PyProof.Rows L2
theorem isApp_eq {i : Nat} {a : Ex} (h : isApp i a = true) : a = .mut .append i (.cons (.cst .none) .nil) := by
  unfold isApp at h
  split at h
  · rw [eq_of_beq h]
  · cases h
theorem spoil_own {i : Nat} : ∀ {is : List Nat} {env out : EnvD}, spoilL i is env = some out → ∀ j ∈ is, (∃ ds, env[j]? = some (.ow ds)) ∧ j ≠ i
  | [], _, _, _, j, hj => by cases hj
  | k :: r, env, out, h, j, hj => by
    unfold spoilL at h
    split at h
    · rename_i ds hk
      split at h
      · rename_i hc
        rcases List.mem_cons.mp hj with e | e
        · subst e
          exact ⟨⟨ds, hk⟩, hc.2.2⟩
        · obtain ⟨⟨es, h1⟩, h2⟩ := spoil_own h j e
          rw [List.getElem?_set_ne (Ne.symm h2)] at h1
          rcases getElem?_set_cases h1 with ⟨_, z, _⟩ | ⟨_, z⟩
          · cases z
          · exact ⟨⟨es, z⟩, h2⟩
      · cases h
    · cases h
theorem evs_vars {Γ : Tab} {env : EnvD} : ∀ {irs : Exs} {is : List Nat}, varsOf irs = some is → (∀ j ∈ is, ∃ ds, env[j]? = some (.ow ds)) → evEs Γ irs env = some (is.map .sl, env)
  | .nil, is, h, _ => by
    cases h
    rfl
  | .cons e r, is, h, ho => by
    cases e with
    | var j =>
      unfold varsOf at h
      rw [Option.bind_eq_some_iff] at h
      obtain ⟨js, h1, h2⟩ := h
      cases h2
      obtain ⟨ds, hd⟩ := ho j List.mem_cons_self
      have e1 : evE Γ (.var j) env = some (.sl j, env) := by
        rw [evE, hd]
      rw [evEs, e1]
      show (evEs Γ r env).bind _ = _
      rw [evs_vars h1 fun k hk => ho k (List.mem_cons_of_mem _ hk)]
      rfl
    | _ => cases h
section
variable {K : PySem.W.Frag} {Γ : Tab}
theorem sk_spoil {ta : TA} {te : TE} {irs : Exs} {is : List Nat} {i : Nat} (ha : TAok K ta (evEs Γ irs)) (hv : varsOf irs = some is) (he : TEok K te (evE Γ (.mut .append i (.cons (.cst .none) .nil)))) :
    TSok K (tFor (iTup K (tTup ta)) (gName i) (tSeq (tDrop te) tNext)) (fun env => if is.length ≤ 100 then (spoilL i is env).bind fun e => some (.nx e) else none) := by
  intro R G0 G H env σ out D S e qn qr
  split at e
  · rename_i hn
    rw [Option.bind_eq_some_iff] at e
    obtain ⟨e1, h1, e⟩ := e
    cases e
    have ho := spoil_own h1
    refine ha _ _ _ _ _ _ _ _ _ _ S (evs_vars hv fun j hj => (ho j hj).1) fun vs G1 H1 hl g1 S1 => ?_
    have hl2 : is.length = vs.length := by simpa using hl
    refine ⟨by rw [← hl2, line_eq]; omega, fun p hp => ?_⟩
    have hR : R.h p = none := S1.rh.free hp
    obtain ⟨S2, g2⟩ := (S1.grow (same_new (o := .tup vs) hp)).gup (p := p) (o := .tup vs) upd_same (S1.gh.free hp) hR (fun i hi => by
      obtain ⟨ys, q⟩ := S1.ownH hi
      rw [hp] at q
      cases q) (fun z => by
      obtain ⟨ys, q⟩ := S1.ownTH z
      rw [hp] at q
      cases q)
    have hsl : ∀ k (hk : k < is.length), σ[is[k]]? = some (some (vs[k]'(by omega))) := fun k hk => by
      refine S1.tm (.sl is[k], vs[k]'(by omega)) ?_
      rw [List.append_nil]
      refine List.mem_iff_getElem.mpr ⟨k, by simp; omega, ?_⟩
      simp
    have S3 : SR K R G0 (upd G1 p (.tup vs)) (upd H1 p (.tup vs)) env σ [] := S2.sub (List.nil_sublist _)
    refine ⟨p, rfl, ⟨vs, SqT.of upd_same⟩, ?_⟩
    refine ⟨fun k m σ H => m = is.length - k ∧ k ≤ is.length ∧ ∃ G' env', Same (upd G1 p (.tup vs)) G' ∧ SR K R G0 G' H env' σ [] ∧ spoilL i (is.drop k) env' = some e1 ∧ ∀ k' (hk : k' < is.length), k ≤ k' → σ[is[k']]? = some (some (vs[k']'(by omega))), ⟨is.length, rfl, Nat.zero_le _, _, env, Same.refl _, S3, by rw [List.drop_zero]; exact h1, fun k' hk _ => hsl k' hk⟩, ?_⟩
    rintro k m σ2 H2 ⟨rfl, hi, G2, env2, g3, S4, h2, hs2⟩
    have hG : G2 p = some (.tup vs) := g3 _ _ upd_same
    have hH : SqT K H2 p vs := SqT.of (S4.gh _ _ hG)
    by_cases hlt : k < is.length
    · refine .inr ⟨⟨vs, vs[k]'(by omega), hH, by simp⟩, fun σ' H' => k + 1 ≤ is.length ∧ ∃ G' env', Same (upd G1 p (.tup vs)) G' ∧ SR K R G0 G' H' env' σ' [] ∧ spoilL i (is.drop (k + 1)) env' = some e1 ∧ ∀ k' (hk : k' < is.length), k + 1 ≤ k' → σ'[is[k']]? = some (some (vs[k']'(by omega))), fun σ' H' z => ⟨is.length - (k + 1), by omega, rfl, z.1, z.2⟩, fun x H' y => ?_⟩
      obtain ⟨eH, y⟩ := y
      have hx := y vs hH
      rw [List.getElem?_eq_getElem (by omega)] at hx
      have hx : vs[k]'(by omega) = x := Option.some.inj hx
      subst eH
      rw [List.drop_eq_getElem_cons hlt] at h2
      unfold spoilL at h2
      split at h2
      · rename_i ds hd
        split at h2
        · rename_i hc
          have hs3 := hs2 k hlt (Nat.le_refl _)
          rw [hx] at hs3
          have S5 := (S4.pushSl hs3).move hd
          have S6 := SR.store (i := i) S5 (fun q hq => by cases hq) (by rw [List.length_set]; exact hc.2.1) (fun j z => by cases z)
          show te (σ2.set i (some x)) H' fun _ H1 => _
          have e5 : evE Γ (.mut .append i (.cons (.cst .none) .nil)) ((env2.set is[k] .no).set i (.ow ds)) = some (.va .none, (env2.set is[k] .no).set i (.ow (ds ++ [.none]))) := by
            have e6 : ((env2.set is[k] .no).set i (.ow ds))[i]? = some (.ow ds) := List.getElem?_set_self (by rw [List.length_set]; exact hc.2.1)
            have e7 : isOwn ((env2.set is[k] .no).set i (.ow ds)) i = true := by
              unfold isOwn
              rw [e6]
            have e8 : evEs Γ (.cons (.cst .none) .nil) ((env2.set is[k] .no).set i (.ow ds)) = some ([.va .none], (env2.set is[k] .no).set i (.ow ds)) := rfl
            rw [evE, if_pos e7, e8]
            have e9 : Pd.frzs ((env2.set is[k] .no).set i (.ow ds)) [.va .none] = some ([.none], (env2.set is[k] .no).set i (.ow ds)) := rfl
            have e10 : mutD .append ds [.none] = some (ds ++ [.none], .none) := if_pos hc.1
            simp only [Option.bind_some]
            rw [e9]
            simp only [Option.bind_some]
            rw [e6]
            simp only []
            rw [e10]
            simp only [Option.bind_some]
            rw [List.set_set]
          refine he _ _ _ _ _ _ _ _ _ _ S6 e5 fun v G7 H7 g7 S7 => ?_
          refine ⟨by omega, G7, _, g3.trans g7, S7.pop, h2, fun k' hk hk2 => ?_⟩
          have hne := (ho (is[k']) (List.getElem_mem hk)).2
          rw [List.getElem?_set_ne (Ne.symm hne)]
          exact hs2 k' hk (by omega)
        · cases h2
      · cases h2
    · have hd : is.drop k = [] := List.drop_eq_nil_of_le (by omega)
      rw [hd] at h2
      cases h2
      exact .inl ⟨⟨vs, hH, by omega⟩, qn _ _ G2 H2 rfl (g1.trans (g2.trans g3)) S4⟩
  · cases e
end
end Pd

/-! the reading is right: blocks -/
namespace Pd
open PySem PySem.Spec PyProof.Rows L2

theorem swaps_no {e : Expr} (h : isComp e = false) (t : Option Expr) (l : Nat) (env : Env) : swapsWith e t l env = pure false := by
  cases e <;> first | rfl | cases h
theorem sw_cell {elt : Expr} {gs : List Comprehension} {scope : Scope} {pos py : Pos} {y : Str} {l : Nat} {env : Env} (hy : env.scope.names.lookup y = some .cell) : swapsWith (.ListComp elt gs scope pos) (some (.Name y py)) l env = pure false := by
  have ky : env.kindOf y = some .cell := hy
  have e1 : (some NameKind.cell == some NameKind.local) = false := by decide
  unfold swapsWith
  simp only [ky, e1, Bool.and_false, Bool.false_and]
section
variable {P : Program} {w : World} {K : PySem.W.Frag} {mg : Str → Option Value} {base : Heap} {Γ : Tab} {lv n : Nat} {c : CC}
theorem XO.loc {X : Cx} (O : XO P w K mg base Γ lv c X) {x : Str} {i : Nat} (h : slotS c x = some i) : X.N.Nodup ∧ X.N[i]? = some x ∧ Loc X.env.scope x ∧ (X.fn x = true ∨ X.env.scope.names.lookup x = some .local) := by
  obtain ⟨h1, h2⟩ := slotS_at h
  refine ⟨by rw [O.N]; exact O.nd, by rw [O.N]; exact h1, ?_, ?_⟩
  · show X.env.scope.names.lookup x = _ ∨ X.env.scope.names.lookup x = _
    rw [O.sc]
    rcases h2 with z | z
    · exact .inl z
    · exact .inr z.1
  · rw [O.sc]
    rcases h2 with z | z
    · exact .inr z
    · exact .inl (O.cell x z.1 z.2)
theorem XO.own {X : Cx} (O : XO P w K mg base Γ lv c X) : PassesOwn (model X.prog X.w) X.A X.env X.xe := by
  rw [O.xe]
  exact PassesOwn.never
theorem s_set {x : Str} {i : Nat} {e : Expr} {y : Ex} {mv : Bool} {p pos : Pos} (hs : slotS c x = some i) (hc : isComp e = false) (h : VOk P w K mg base Γ lv c e y) : StOk P w K mg base Γ lv n c (.Assign [.Name x p] e pos) (.asg i y mv) := by
  obtain ⟨t, h1, h2⟩ := h
  refine ⟨_, sk_asg h1, fun X O => ?_⟩
  obtain ⟨a, b, d, f⟩ := O.loc hs
  exact ps_set a b d (h2 X O) (swaps_no hc _ _ _) f
theorem s_lc {x : Str} {i : Nat} {elt : Expr} {gs : List Comprehension} {scope : Scope} {y : Ex} {p lp pos : Pos} (G : GO P w K mg base c Γ lv) (hs : slotS c x = some i) (hsw : swapOk c x p lp scope = true) (h : cE 60 c (.ListComp elt gs scope lp) = some y) : StOk P w K mg base Γ lv n c (.Assign [.Name x p] (.ListComp elt gs scope lp) pos) (.asg i y false) := by
  simp only [cE] at h
  split at h
  · rename_i tg iter ifs
    obtain ⟨q1, q2⟩ := (ih_all (P := P) (w := w) (K := K) (mg := mg) (base := base) (Γ := Γ) (lv := lv) 59).lc c elt tg iter ifs scope y lp G h
    unfold swapOk at hsw
    rw [Bool.and_eq_true] at hsw
    obtain ⟨hf, hsw⟩ := hsw
    have hf := fnSc hf
    split at hsw
    · rename_i hl
      rw [Bool.and_eq_true] at hsw
      obtain ⟨te, t1, t2⟩ := q2 x i p pos (slotS_at hs).1 hl fun env he => sw_true (by rw [he]; exact hf) (by rw [he]; exact hl) hsw.1 (by simpa using hsw.2)
      exact ⟨_, sk_asg (i := i) (mv := false) t1, t2⟩
    · rename_i hl
      obtain ⟨t, h1, h2⟩ := q1
      refine ⟨_, sk_asg (i := i) (mv := false) h1, fun X O => ?_⟩
      obtain ⟨a, b, d, f⟩ := O.loc hs
      exact ps_set a b d (h2 X O) (sw_cell (by rw [O.sc]; exact hl)) f
    · cases hsw
  · cases h
theorem s_asgT {tg e : Expr} {t : Tg} {y : Ex} {pos : Pos} (hc : isComp e = false) (hw : ∀ env, swappedStores [tg] e env = pure none) (hg : GOk P w K mg base Γ lv c tg t) (h : VOk P w K mg base Γ lv c e y) (h1 : ∀ env : Env, (assignEach [tg] env).map (·.2) = [assign tg env]) : StOk P w K mg base Γ lv n c (.Assign [tg] e pos) (.asgT t y) := by
  obtain ⟨te, a1, a2⟩ := h
  obtain ⟨g, b1, b2⟩ := hg
  exact ⟨_, sk_asgT a1 b1, fun X O => ps_asg (a2 X O) (b2 X O) (swaps_no hc _ _ _) (hw X.env) (h1 X.env)⟩
theorem s_spoil {tg it : Expr} {b : List Stmt} {ir : Sm} {pos : Pos} (G : GO P w K mg base c Γ lv) (h : cSpoil c tg it b = some ir) : StOk P w K mg base Γ lv n c (.For tg it b [] pos) ir := by
  have E := ih_all (P := P) (w := w) (K := K) (mg := mg) (base := base) (Γ := Γ) (lv := lv) 60
  unfold cSpoil at h
  split at h
  · rename_i x p es k q e r
    split at h
    · rename_i hc
      rw [Bool.and_eq_true] at hc
      simp only [Option.bind_eq_some_iff] at h
      obtain ⟨i, hi, xs, hxs, is, his, a, ha, h⟩ := h
      split at h
      · rename_i hp
        cases h
        obtain ⟨ta, t1, t2, _⟩ := (E.es c es xs G hxs).1
        obtain ⟨te, a1, a2⟩ := (E.e c e a G ha).v
        have ea : a = .mut .append i (.cons (.cst .none) .nil) := isApp_eq hp
        subst ea
        exact ⟨_, sk_spoil t1 his a1, fun X O => ps_for O.own O.calm (by
          have z := pi_tup (tg := .Name x p) (pe_tup (x1 := k) (pos := q) ((t2 X O).1 hc.1))
          rw [O.hK] at z
          exact z) (O.tg hi) (pss_cons (ps_expr (a2 X O) (swaps_no (by simpa using hc.2) _ _ _)) pss_nil) (noSet_pure rfl X.env)⟩
      · cases h
    · cases h
  · cases h
theorem ez_ok (G : GO P w K mg base c Γ lv) : ∀ {xs : List Str} {vs : List Expr} {es : Exs}, cEz c xs vs = some es → AOk P w K mg base Γ lv c vs es
  | xs, [], es, h => by
    have h : es = .nil := by
      cases xs <;> (rw [cEz] at h; cases h; rfl)
    subst h
    refine ⟨tNil, ok_nil, fun X O => ⟨fun _ => pa_nil, fun kws hk => ?_⟩, fun env p hp => by cases hp; rfl, fun _ => rfl⟩
    cases kws with
    | nil => exact pk_nil
    | cons k r =>
      obtain ⟨nm, v, kp⟩ := k
      have hk : v :: kwVals r = [] := hk
      cases hk
  | x :: xs, e :: vs, es, h => by
    rw [cEz] at h
    simp only [Option.bind_eq_some_iff] at h
    obtain ⟨y, hy, ys, hys, h⟩ := h
    cases h
    have E := ih_all (P := P) (w := w) (K := K) (mg := mg) (base := base) (Γ := Γ) (lv := lv) 60
    obtain ⟨t, h1, h2⟩ := (EOk.fz (b := c.mv.contains (x, ("*" : Str))) (E.e c e y G hy)).v
    obtain ⟨ts, s1, s2, s3, s4⟩ := ez_ok G hys
    refine ⟨tCons t ts, ok_cons h1 s1, fun X O => ⟨fun hp => pa_c hp (h2 X O) ((s2 X O).1 (plainArgs_cons hp)), fun kws hk => ?_⟩, fun env p hp => ?_, fun hn => by cases hn⟩
    · cases kws with
      | nil => cases hk
      | cons k r =>
        obtain ⟨nm, v, kp⟩ := k
        have hk : v :: kwVals r = e :: vs := hk
        cases hk
        exact pk_cons (h2 X O) ((s2 X O).2 r rfl)
    · rw [evEs] at hp
      simp only [Option.bind_eq_some_iff] at hp
      obtain ⟨p1, q1, p2, q2, e⟩ := hp
      cases e
      show p2.1.length + 1 = vs.length + 1
      rw [s3 _ _ q2]
  | [], e :: vs, es, h => by
    rw [cEz] at h
    cases h
variable (P w K mg base Γ lv n) in
structure SH (m : Nat) : Prop where
  s : ∀ c s ir, GO P w K mg base c Γ lv → cS m c s = some ir → StOk P w K mg base Γ lv n c s ir
  ss : ∀ c ss irs, GO P w K mg base c Γ lv → cSs m c ss = some irs → StsOk P w K mg base Γ lv n c ss irs
theorem sh_s {m : Nat} (I : SH P w K mg base Γ lv n m) (c : CC) (s : Stmt) (ir : Sm) (G : GO P w K mg base c Γ lv) (h : cS (m + 1) c s = some ir) : StOk P w K mg base Γ lv n c s ir := by
  have E := ih_all (P := P) (w := w) (K := K) (mg := mg) (base := base) (Γ := Γ) (lv := lv) 60
  cases s with
  | Expr e pos =>
    simp only [cS] at h
    split at h
    · cases h
    · rename_i hc
      simp only [Option.bind_eq_some_iff] at h
      obtain ⟨x, hx, e2⟩ := h
      cases e2
      obtain ⟨t, h1, h2⟩ := (E.e c e x G hx).v
      exact ⟨_, sk_drop h1, fun X O => ps_expr (h2 X O) (swaps_no (by simpa using hc) _ _ _)⟩
  | Assign tgs e pos =>
    simp only [cS] at h
    split at h
    · rename_i x p
      simp only [Option.bind_eq_some_iff] at h
      obtain ⟨i, hs, h⟩ := h
      split at h
      · split at h
        · rename_i hsw
          simp only [Option.bind_eq_some_iff] at h
          obtain ⟨y, hy, e2⟩ := h
          cases e2
          exact s_lc G hs hsw hy
        · cases h
      · simp only [Option.bind_eq_some_iff] at h
        obtain ⟨y, hy, e2⟩ := h
        cases e2
        exact s_set hs rfl (E.e c _ y G hy).v
      · split at h
        · cases h
        · rename_i hc
          simp only [Option.bind_eq_some_iff] at h
          obtain ⟨y, hy, e2⟩ := h
          cases e2
          exact s_set hs (by simpa using hc) (E.e c _ y G hy).v
    · rename_i ts k p
      split at h
      · split at h
        · rename_i hf
          rw [Bool.and_eq_true] at hf
          simp only [Option.bind_eq_some_iff] at h
          obtain ⟨xs, hxs, sw, hsw, h⟩ := h
          split at h
          · rename_i hb
            simp only [Bool.and_eq_true, decide_eq_true_eq] at hb
            simp only [Option.bind_eq_some_iff] at h
            obtain ⟨is, his, es, hes, e2⟩ := h
            cases e2
            exact s_par hf.2 hxs hsw hb.1.1 hb.1.2 hb.2 his hf.1 (ez_ok G hes)
          · cases h
        · cases h
      · rename_i hnt
        split at h
        · cases h
        · rename_i hc
          simp only [Option.bind_eq_some_iff] at h
          obtain ⟨t, ht, y, hy, e2⟩ := h
          cases e2
          refine s_asgT (by simpa using hc) (fun env => ?_) (E.t c _ t G ht) (E.e c _ y G hy).v fun env => rfl
          cases e <;> first | rfl | exact absurd rfl (hnt _ _ _)
    · split at h
      · cases h
      · rename_i hc
        simp only [Option.bind_eq_some_iff] at h
        obtain ⟨t, ht, y, hy, e2⟩ := h
        cases e2
        exact s_asgT (by simpa using hc) (fun env => rfl) (E.t c _ t G ht) (E.e c _ y G hy).v fun env => rfl
    · cases h
  | Return v pos =>
    simp only [cS] at h
    split at h
    · simp only [Option.bind_eq_some_iff] at h
      obtain ⟨x, hx, e2⟩ := h
      cases e2
      obtain ⟨t, h1, h2⟩ := (E.e c _ x G hx).v
      exact ⟨_, sk_ret h1, fun X O => ps_ret (h2 X O)⟩
    · cases h
      exact ⟨_, sk_retN, fun X O => ps_retN⟩
  | If t a b pos =>
    simp only [cS, Option.bind_eq_some_iff] at h
    obtain ⟨z, hz, x, hx, y, hy, e2⟩ := h
    cases e2
    obtain ⟨_, tt, t1, t2⟩ := E.e c t z G hz
    obtain ⟨u1, a1, a2⟩ := I.ss c a x G hx
    obtain ⟨u2, b1, b2⟩ := I.ss c b y G hy
    exact ⟨_, sk_if t1 a1 b1, fun X O => ps_if (t2 X O) (a2 X O) (b2 X O)⟩
  | While t b o pos =>
    simp only [cS] at h
    split at h
    · simp only [Option.bind_eq_some_iff] at h
      obtain ⟨z, hz, x, hx, e2⟩ := h
      cases e2
      obtain ⟨_, tt, t1, t2⟩ := E.e c t z G hz
      obtain ⟨u1, a1, a2⟩ := I.ss c b x G hx
      exact ⟨_, sk_whl (n := n) t1 a1, fun X O => ps_while O.own (t2 X O) (a2 X O)⟩
    · cases h
  | For tg it b o pos =>
    simp only [cS] at h
    split at h
    · split at h
      · exact s_spoil G h
      split at h
      · rename_i hns
        simp only [Option.bind_eq_some_iff] at h
        obtain ⟨s, hs, t, ht, x, hx, e2⟩ := h
        cases e2
        obtain ⟨wi, s1, s2⟩ := E.src c it tg s G hs
        obtain ⟨g, t1, t2⟩ := E.t c tg t G ht
        obtain ⟨u1, a1, a2⟩ := I.ss c b x G hx
        exact ⟨_, sk_for s1 t1 a1, fun X O => ps_for O.own O.calm (s2 X O) (t2 X O) (a2 X O) (noSet_pure hns X.env)⟩
      · cases h
    · cases h
  | Raise a b pos =>
    simp only [cS] at h
    cases h
    exact ⟨tNever, (fun R G0 G H env σ out D S e => nomatch e), fun X O => ps_never⟩
  | Pass pos =>
    simp only [cS] at h
    cases h
    exact ⟨_, sk_next, fun X O => ps_pass⟩
  | _ => simp [cS] at h
theorem sh_ss {m : Nat} (I : SH P w K mg base Γ lv n m) (c : CC) (ss : List Stmt) (irs : Sms) (G : GO P w K mg base c Γ lv) (h : cSs (m + 1) c ss = some irs) : StsOk P w K mg base Γ lv n c ss irs := by
  cases ss with
  | nil =>
    simp only [cSs] at h
    cases h
    exact ⟨_, sk_next, fun X O => pss_nil⟩
  | cons s ss =>
    simp only [cSs, Option.bind_eq_some_iff] at h
    obtain ⟨x, hx, xs, hxs, e2⟩ := h
    cases e2
    obtain ⟨t, h1, h2⟩ := I.s c s x G hx
    obtain ⟨u, g1, g2⟩ := I.ss c ss xs G hxs
    exact ⟨_, sk_seq h1 g1, fun X O => pss_cons (h2 X O) (g2 X O)⟩
theorem sh_all : ∀ m : Nat, SH P w K mg base Γ lv n m
  | 0 => ⟨(fun c s ir G h => nomatch h), (fun c ss irs G h => nomatch h)⟩
  | m + 1 => ⟨sh_s (sh_all m), sh_ss (sh_all m)⟩
end
end Pd

/-! a def keeps its promise -/
namespace Pd
open PySem PySem.Spec PyProof.Rows L2

/-- what a def of the text does on data -/
def mkSig (Γ : Tab) (n : Nat) (io : Bool) (np nl : Nat) (b : Sms) : Sig := ⟨io, fun ds => if ds.length = np then runD Γ n io nl b ds else none⟩

section
variable {P : Program} {w : World} {K : PySem.W.Frag} {mg : Str → Option Value} {base : Heap} {Γ : Tab} {lv n : Nat} {c : CC}
theorem guards_deeper {A : Around} {env : Env} (h : A.guards = some []) : (A.deeper env).guards = some [] := h
theorem start_get {N : List Str} {vs : List V} {i : Nat} : (start N vs)[i]? = if i < vs.length then (vs[i]?).map some else if i < vs.length + (N.length - vs.length) then some none else none := by
  unfold L2.start
  by_cases h : i < vs.length
  · rw [if_pos h, List.getElem?_append_left (by simpa using h), List.getElem?_map]
  · rw [if_neg h, List.getElem?_append_right (by simpa using h), List.length_map, List.getElem?_replicate]
    by_cases h2 : i < vs.length + (N.length - vs.length)
    · rw [if_pos h2, if_pos (by omega)]
    · rw [if_neg h2, if_neg (by omega)]
theorem RpAll.lens {G : Hp} {vs : List V} {ds : List PyData} (r : RpAll K G vs ds) : vs.length = ds.length := r.len
/-- the entry of a def that changes nothing -/
theorem entry_no {G H : Hp} {N : List Str} {vs : List V} {ds : List PyData} (g : Same G H) (r : RpAll K G vs ds) : SR K ⟨H, none⟩ G G H (env0 false N.length ds) (start N vs) [] := by
  have hl := r.len
  have he : ∀ (i : Nat) cc, (env0 false N.length ds)[i]? = some cc → (∃ d, cc = .va d ∧ ds[i]? = some d) ∨ (cc = .no ∧ ds.length ≤ i) := fun i cc e => by
    have e : (ds.map Cell.va ++ List.replicate (N.length - ds.length) Cell.no)[i]? = some cc := e
    by_cases h : i < ds.length
    · rw [List.getElem?_append_left (by simpa using h), List.getElem?_map, Option.map_eq_some_iff] at e
      obtain ⟨d, e1, e2⟩ := e
      exact .inl ⟨d, e2.symm, e1⟩
    · rw [List.getElem?_append_right (by simpa using h), List.getElem?_replicate] at e
      split at e
      · cases e
        exact .inr ⟨rfl, by omega⟩
      · cases e
  have noOw : ∀ i a, ¬ OwnS (env0 false N.length ds) (start N vs) i a := fun i a ⟨⟨es, q⟩, _⟩ => by
    rcases q with q | q <;> rcases he i _ q with ⟨d, z, _⟩ | ⟨z, _⟩ <;> cases z
  refine ⟨g, Same.refl _, Same.refl _, fun b hb => .inl hb, ?_, fun i cc e => ?_, fun i a h => absurd h (noOw i a), fun i j a h => absurd h (noOw i a), (fun p hp => nomatch hp), (fun a ha => nomatch ha), List.nodup_nil, fun i a h => absurd h (noOw i a), fun i es e => ?_⟩
  · show (ds.map Cell.va ++ List.replicate (N.length - ds.length) Cell.no).length = (start N vs).length
    unfold L2.start
    rw [List.length_append, List.length_append, List.length_map, List.length_map, List.length_replicate, List.length_replicate, hl]
  · rcases he i cc e with ⟨d, z, z2⟩ | ⟨z, _⟩
    · subst z
      obtain ⟨v, hv, rv⟩ := r.get z2
      have hi : i < vs.length := (List.getElem?_eq_some_iff.mp hv).1
      exact ⟨v, by rw [start_get, if_pos hi, hv]; rfl, rv⟩
    · subst z
      trivial
  · rcases he i _ e with ⟨d, z, _⟩ | ⟨z, _⟩ <;> cases z
/-- the entry of a def that changes the list at a -/
theorem entry_io {G H : Hp} {N : List Str} {a : Addr} {xs ws : List V} {ds0 : List PyData} {ds : List PyData} (g : Same G H) (ha : H a = some (.lst xs)) (hG : G a = none) (r0 : RpAll K G xs ds0) (r : RpAll K G ws ds) :
    SR K ⟨fun b => if b = a then none else H b, some a⟩ G G H (env0 true N.length (.list ds0 :: ds)) (start N (.ref a :: ws)) [] := by
  have hl := r.len
  have e0 : env0 true N.length (.list ds0 :: ds) = (.io ds0 :: ds.map Cell.va) ++ List.replicate (N.length - (ds.length + 1)) Cell.no := rfl
  have he : ∀ (i : Nat) cc, (env0 true N.length (.list ds0 :: ds))[i]? = some cc → (i = 0 ∧ cc = .io ds0) ∨ (∃ j d, i = j + 1 ∧ cc = .va d ∧ ds[j]? = some d) ∨ (cc = .no ∧ 1 ≤ i) := fun i cc e => by
    rw [e0] at e
    cases i with
    | zero =>
      cases e
      exact .inl ⟨rfl, rfl⟩
    | succ i =>
      have e : (ds.map Cell.va ++ List.replicate (N.length - (ds.length + 1)) Cell.no)[i]? = some cc := e
      by_cases h : i < ds.length
      · rw [List.getElem?_append_left (by simpa using h), List.getElem?_map, Option.map_eq_some_iff] at e
        obtain ⟨d, e1, e2⟩ := e
        exact .inr (.inl ⟨i, d, rfl, e2.symm, e1⟩)
      · rw [List.getElem?_append_right (by simpa using h), List.getElem?_replicate] at e
        split at e
        · cases e
          exact .inr (.inr ⟨rfl, by omega⟩)
        · cases e
  have st0 : (start N (.ref a :: ws))[0]? = some (some (.ref a)) := by
    rw [start_get, if_pos (by simp)]
    rfl
  have own : ∀ i b, OwnS (env0 true N.length (.list ds0 :: ds)) (start N (.ref a :: ws)) i b → i = 0 ∧ b = a := fun i b ⟨⟨es, q⟩, q2⟩ => by
    have hi : i = 0 := by
      rcases q with q | q <;> rcases he i _ q with ⟨z, z2⟩ | ⟨j, d, _, z, _⟩ | ⟨z, _⟩ <;> first | exact z | cases z
    subst hi
    rw [st0] at q2
    cases q2
    exact ⟨rfl, rfl⟩
  refine ⟨g, fun b o e => ?_, Same.refl _, fun b hb => .inl hb, ?_, fun i cc e => ?_, fun i b h => ?_, fun i j b h h2 => by rw [(own i b h).1, (own j b h2).1], (fun p hp => nomatch hp), (fun b hb => nomatch hb), List.nodup_nil, (fun i b h hb => nomatch hb), fun i es e => ?_⟩
  · have e : (if b = a then none else H b) = some o := e
    split at e
    · cases e
    · exact e
  · rw [e0]
    unfold L2.start
    simp only [List.length_append, List.length_cons, List.length_map, List.length_replicate]
    rw [hl]
  · rcases he i cc e with ⟨z, z2⟩ | ⟨j, d, z, z2, z3⟩ | ⟨z, _⟩
    · subst z
      subst z2
      exact ⟨a, xs, st0, ha, r0⟩
    · subst z
      subst z2
      obtain ⟨v, hv, rv⟩ := r.get z3
      have hi : j < ws.length := (List.getElem?_eq_some_iff.mp hv).1
      exact ⟨v, by rw [start_get, if_pos (by simp; omega), List.getElem?_cons_succ, hv]; rfl, rv⟩
    · subst z
      trivial
  · obtain ⟨_, z⟩ := own i b h
    subst z
    exact ⟨hG, if_pos rfl⟩
  · rcases he i _ e with ⟨z, z2⟩ | ⟨j, d, _, z, _⟩ | ⟨z, _⟩
    · subst z
      exact ⟨a, rfl, st0⟩
    · cases z
    · cases z
theorem rv_end {G0 G' H H' : Hp} {R : RR} {env' : EnvD} {σ' : L2.St} {r : Rv} {v : V} (S : SR K R G0 G' H' env' σ' [(r.opd, v)]) (hR : ∀ b, R.h b = none → H b = none ∨ R.io = some b) (hio : ∀ a, R.io = some a → ∃ ds, env'[(0 : Nat)]? = some (.io ds)) : RvR K H G' H' r v := by
  have h := S.top
  cases r with
  | va d => exact h
  | ow ds =>
    obtain ⟨p, xs, e, hp, ra⟩ := h
    have e : v = .ref p := e
    subst e
    have f := S.freeT p (by show p ∈ ownT [(Opd.ow ds, V.ref p)]; rw [ownT_ow]; exact List.mem_cons_self)
    refine ⟨p, xs, rfl, ?_, f.1, hp, ra⟩
    rcases hR p f.2 with z | z
    · exact z
    · obtain ⟨es, q⟩ := hio p z
      obtain ⟨b, e1, e2⟩ := S.iod 0 es q
      rw [z] at e1
      cases e1
      exact absurd (show p ∈ ownT [(Opd.ow ds, V.ref p)] by rw [ownT_ow]; exact List.mem_cons_self) (S.cross 0 p ⟨⟨es, .inr q⟩, e2⟩)
/-- the body does what the data say -/
theorem body_ok {t : TS} {irs : Sms} {io : Bool} {np : Nat} {N : List Str} {vs : List V} {H : Hp} {Q : VK} {E : XK} (ht : TSok K t (exSs Γ n irs)) (h : spD K (mkSig Γ n io np N.length irs) vs H Q E) : t { nx := fun _ H' => Q .non H', rt := Q } (start N vs) H := by
  rcases h with ⟨hio, G, ds, r, x, g, ra, hrun, q⟩ | ⟨hio, G, a, xs, ds0, ws, ds, r, x, e, g, ha, hG, r0, rw', hrun, q⟩
  · have hio : io = false := hio
    subst hio
    have hrun : (if ds.length = np then runD Γ n false N.length irs ds else none) = some (r, x) := hrun
    split at hrun
    · unfold runD at hrun
      rw [Option.bind_eq_some_iff] at hrun
      obtain ⟨out, ho, hout⟩ := hrun
      have S := entry_no (N := N) g ra
      refine ht _ _ _ _ _ _ out _ S ho (fun env' σ' G' H' e g' S' => ?_) fun r' env' v σ' G' H' e g' S' => ?_
      · subst e
        have hout : some (Rv.va .none, ([] : List PyData)) = some (r, x) := hout
        cases hout
        exact q .non G' H' g' (fun b hb => S'.gr b hb) S'.gh S'.rh .non
      · subst e
        have hout : some (r', ([] : List PyData)) = some (r, x) := hout
        cases hout
        refine q v G' H' g' (fun b hb => S'.gr b hb) S'.gh S'.rh (rv_end S' (fun b hb => .inl hb) fun a ha => nomatch ha)
    · cases hrun
  · have hio : io = true := hio
    subst hio
    subst e
    have hrun : (if (PyData.list ds0 :: ds).length = np then runD Γ n true N.length irs (.list ds0 :: ds) else none) = some (r, x) := hrun
    split at hrun
    · unfold runD at hrun
      rw [Option.bind_eq_some_iff] at hrun
      obtain ⟨out, ho, hout⟩ := hrun
      have S := entry_io (N := N) g ha hG r0 rw'
      have fin : ∀ {env' : EnvD} {σ' : L2.St} {G' H' : Hp} {tmp : Tmp} {es : List PyData}, Same G G' → SR K ⟨fun b => if b = a then none else H b, some a⟩ G G' H' env' σ' tmp → env'[(0 : Nat)]? = some (.io es) →
          (∀ b, G' b ≠ none → G b ≠ none ∨ H b = none) ∧ (∀ b o, b ≠ a → H b = some o → H' b = some o) ∧ ∃ ys, H' a = some (.lst ys) ∧ RpAll K G' ys es := fun {env' σ' G' H' tmp es} g' S' e0 => by
        obtain ⟨b, e1, e2⟩ := S'.iod 0 es e0
        cases e1
        obtain ⟨b, ys, e3, e4, e5⟩ := S'.slot 0 _ e0
        rw [e2] at e3
        cases e3
        have fa := S'.free 0 a ⟨⟨es, .inr e0⟩, e2⟩
        refine ⟨fun b hb => ?_, fun b o nb z => S'.rh b o (show (if b = a then none else H b) = some o by rw [if_neg nb]; exact z), ys, e4, e5⟩
        rcases S'.gr b hb with z | z
        · exact .inl z
        · have z : (if b = a then none else H b) = none := z
          split at z
          · rename_i eb
            rw [eb] at hb
            exact absurd fa.1 hb
          · exact .inr z
      refine ht _ _ _ _ _ _ out _ S ho (fun env' σ' G' H' e g' S' => ?_) fun r' env' v σ' G' H' e g' S' => ?_
      · subst e
        unfold outD at hout
        dsimp only at hout
        split at hout
        · rename_i es e0
          cases hout
          obtain ⟨f1, f2, ys, f3, f4⟩ := fin g' S' e0
          exact q .non G' H' ys g' f1 S'.gh f2 f3 f4 .non
        · cases hout
      · subst e
        unfold outD at hout
        dsimp only at hout
        split at hout
        · rename_i es e0
          cases hout
          obtain ⟨f1, f2, ys, f3, f4⟩ := fin g' S' e0
          refine q v G' H' ys g' f1 S'.gh f2 f3 f4 (rv_end S' (fun b hb => ?_) fun a' _ => ⟨_, e0⟩)
          have hb : (if b = a then none else H b) = none := hb
          split at hb
          · rename_i eb
            exact .inr (by rw [eb])
          · exact .inl hb
        · cases hout
    · cases hrun
/-- THE RULE for a def -/
theorem def_ok {x qual : Str} {st : Stmt} {f : Addr} {fd : FuncData} {ps : List Str} {m : Nat} {io : Bool} {irs : Sms} (F : Fun K x qual st f fd) (S : FnScope c.N ps (defScope st)) (hsc : c.sc = defScope st) (G : GO P w K mg base c Γ lv) (hb : cSs m c (defBody st) = some irs) :
    FnD P w K mg base (lv + 1) f fd ps (spD K (mkSig Γ n io ps.length c.N.length irs)) := by
  obtain ⟨oc, od, kV, doc, pm, an, cdv, ct, osl, rfl, lk, hcd⟩ := F.ex
  have len : ∀ vs H Q E, spD K (mkSig Γ n io ps.length c.N.length irs) vs H Q E → vs.length = ps.length := fun vs H Q E h => by
    rcases h with ⟨_, G, ds, r, x, g, ra, hrun, q⟩ | ⟨_, G, a, xs, ds0, ws, ds, r, x, e, g, ha, hG, r0, rw', hrun, q⟩
    · have hrun : (if ds.length = ps.length then runD Γ n io c.N.length irs ds else none) = some (r, x) := hrun
      split at hrun
      · rename_i hl
        rw [ra.len]
        exact hl
      · cases hrun
    · have hrun : (if (PyData.list ds0 :: ds).length = ps.length then runD Γ n io c.N.length irs (.list ds0 :: ds) else none) = some (r, x) := hrun
      split at hrun
      · rename_i hl
        rw [e, List.length_cons, rw'.len]
        exact hl
      · cases hrun
  obtain ⟨t, t1, t2⟩ := (sh_all (P := P) (w := w) (K := K) (mg := mg) (base := base) (Γ := Γ) (lv := lv) (n := n) m).ss c (defBody st) irs G hb
  refine ⟨len, fun A outer s H args us vs Q E hr hgd e0 hbd r hsp => ?_⟩
  have hl := len _ _ _ _ hsp
  have KX : K.In s.heap := e0.mod.kin.keeps fun b o e => (e0.bs b o e).1
  have lim : s.heap.NoLimit := e0.mod.nolimit.keeps fun b o e => (e0.bs b o e).1
  refine codeAny_call_function hr.depth (KX _ _ lk) rfl S.co S.gen rfl (PySem.W.codeRec_of KX hcd) (hbd _ _ _ _ ?_)
  refine wpAny_newFunctionEnv_cells S.kind (fun ⟨y, u⟩ hy => ?_) fun env he s1 xx => ?_
  · rcases S.par y (List.of_mem_zip hy).1 with q | q
    · exact .inl q
    · exact .inr ⟨q, PySem.W.cellsFrom_some _ _ _ (.inl q)⟩
  subst he
  refine ⟨lim.keeps xx.toInCall.keep, codeAny_func ?_⟩
  have I : Inv (cxOf L2.CX0 P w K mg base c.N qual (defScope st) f cdv A outer s H E) [] (start c.N vs) H s1 := inv_start S hr.hd e0 hl r xx
  have O : XO P w K mg base Γ lv c (cxOf L2.CX0 P w K mg base c.N qual (defScope st) f cdv A outer s H E).nox :=
    ⟨rfl, rfl, rfl, rfl, rfl, rfl, S.nd, hsc.symm, rfl, guards_deeper hgd, hr.deeper _, rfl, fun _ _ _ => rfl, G⟩
  have hps := (t2 _ O).nox
  refine wpAny_mono (hps.run [] s1 (start c.N vs) H _ I (body_ok t1 hsp)) (fun fl s' hs => ?_) fun e s' hs => hs
  have done : ∀ {σ' : L2.St} {H' : Hp} {v : V} {u : Value}, Inv (cxOf L2.CX0 P w K mg base c.N qual (defScope st) f cdv A outer s H E) [] σ' H' s' → RelV v u → Q v H' → CE outer P w H s Q u s' :=
    fun {σ' H' v u} J z q => ⟨v, H', J.os, J.bare, J.base, J.hok, z, q⟩
  cases fl with
  | next =>
    obtain ⟨σ', H', J, q⟩ := hs
    exact done (v := V.non) (u := Value.none) J rfl q
  | ret u =>
    obtain ⟨v, σ', H', J, z, q⟩ := hs
    exact done J z q
  | brk =>
    obtain ⟨_, _, _, q⟩ := hs
    exact q.elim
  | cont =>
    obtain ⟨_, _, _, q⟩ := hs
    exact q.elim
end
end Pd

/-! the law's own call -/
namespace Pd
open PySem PySem.Spec PyProof.Rows L2

/-- the law's def is called behind the top: its answer is True (the road of HandS.Ends.law_call, for FnD) -/
theorem lawD {P : Program} {w : World} {K : PySem.W.Frag} {gl bl : Str → Option Value} {lv : Nat} {fa la : Addr} {fd : FuncData} {nm : Str} {g : Sig} {st : Shared} {us : List Value} {ns : List Int}
    (kin : K.In st.heap) (gns : st.heap.Ns mainGlobals gl) (bns : st.heap.Ns builtinsNs bl) (bbs : ∀ y : Str, y ≠ "__name__" → bl y = bootBuiltins y) (nlm : st.heap.NoLimit) (gen : st.gens = #[])
    (hla : st.heap.get? la = some { cls := .type "list", data := .seq us.toArray }) (iis : IntsAre us ns) (hz : ns.length ≤ sizeLine) (room : Room lv callerA) (gd : callerA.guards = some [])
    (F : ∀ bs : Heap, K.In bs → bs.Ns mainGlobals gl → FnD P w K gl bs lv fa fd [nm] (spD K g)) (bd : ∀ (z : Shared) (y : Value), BindsTo z fd ⟨[y], []⟩ [(nm, y)])
    (io : g.io = false) (run : g.run [scrD ns] = some (.va (.bool true), [])) :
    codeAny (model P w) callerA (.call (.ref fa) ⟨[.ref la], []⟩) (fun q z => q = .ok (.ret (.bool true)) ∧ OldK st.heap z.heap ∧ z.os = st.os ∧ AllBare z.gens) st := by
  have vr := vals_ints iis
  have ul := iis.length
  have main : ∀ T : Hp, Only T → SqL K T la (ns.map V.int) → HOk P w T st.heap → (∀ c, T c ≠ none → c = la) → (T la ≠ none → K.lookup la = none) →
      codeAny (model P w) callerA (.call (.ref fa) ⟨[.ref la], []⟩) (fun q z => q = .ok (.ret (.bool true)) ∧ OldK st.heap z.heap ∧ z.os = st.os ∧ AllBare z.gens) st := by
    intro T only seq hok one free
    have keep : ∀ {c : Addr} {u : Obj}, st.heap.get? c = some u → T c = none → (hidT st.heap T).get? c = some u := fun e1 e2 => hidT_get e1 e2
    have dicts : ∀ {c : Addr} {u : Obj} {en : Array DictEntry} {ep : Nat}, st.heap.get? c = some u → u.data = .dict en ep → T c = none := fun {c u en ep} e1 e2 => by
      cases tc : T c with
      | none => rfl
      | some z =>
        have ec : c = la := one c (by rw [tc]; simp)
        rw [ec, hla] at e1
        cases e1
        exact absurd (show Data.seq us.toArray _ = Data.dict en ep from e2) (fun z => nomatch z)
    have nsT : ∀ {c : Addr} {m : Str → Option Value}, st.heap.Ns c m → (hidT st.heap T).Ns c m := fun {c m} ⟨u, en, ep, e1, e2, e3⟩ => ⟨u, en, ep, keep e1 (dicts e1 e2), e2, e3⟩
    have kT : K.In (hidT st.heap T) := fun c u e1 => keep (kin c u e1) (by
      cases tc : T c with
      | none => rfl
      | some z =>
        have ec : c = la := one c (by rw [tc]; simp)
        subst ec
        rw [free (by rw [tc]; simp)] at e1
        cases e1)
    have md : Mod K gl (hidT st.heap T) := ⟨kT, nsT gns, ⟨bl, nsT bns, bbs⟩, by
      obtain ⟨mc, h1, h2⟩ := nlm
      exact ⟨mc, nsT h1, h2⟩⟩
    have en0 : Env0 P w K gl (hidT st.heap T) callerA [] st T := ⟨rfl, md, fun c u e1 => of_hidT e1, Nat.le_of_eq (hidT_size _ _), trivial, fun c hc => absurd (show c ∈ ([] : List Addr) from hc) List.not_mem_nil, hok, .of_eq gen⟩
    have sp : spD K g [.ref la] T (fun v _ => v = .bl true) (fun _ _ _ => False) :=
      .inl ⟨io, T, [scrD ns], .va (.bool true), [], Same.refl _, .cons (.scr seq) .nil, run, fun v G' H' _ _ _ _ rv => Rp.boolI rv⟩
    refine codeAny_mono ((F _ kT (nsT gns)).run callerA [] st T ⟨[.ref la], []⟩ [.ref la] [.ref la] _ _ room gd en0 (bd st (.ref la)) (.cons rfl .nil) sp) fun q z hq => ?_
    match q, hq with
    | .error _, hq => exact False.elim hq
    | .ok .next, hq => exact False.elim hq
    | .ok .brk, hq => exact False.elim hq
    | .ok .cont, hq => exact False.elim hq
    | .ok (.ret y), hq =>
      obtain ⟨v, T', os', bare, un, hok', rel, ev⟩ := hq
      have ev : v = .bl true := ev
      subst ev
      have ey : y = Value.bool true := rel
      subst ey
      refine ⟨rfl, OldK.of_keep fun c u e1 => ?_, os', bare⟩
      cases tc : T c with
      | none => exact un.keep c u e1 tc (fun z => absurd (show c ∈ ([] : List Addr) from z) List.not_mem_nil) (by simp)
      | some z =>
        rcases only c with e2 | ⟨ob, xs, e2⟩
        · rw [tc] at e2
          cases e2
        · obtain ⟨f1, _⟩ := hok c _ e2
          obtain ⟨f2, _⟩ := hok' c _ (un.frzs c ob _ e2)
          rw [e1] at f1
          cases f1
          exact f2
  cases lk : K.lookup la with
  | some ob =>
    have e1 := kin la ob lk
    rw [hla] at e1
    cases e1
    exact main (fun _ => none) (fun _ => .inl rfl) (.inr ⟨_, us.toArray, _, lk, rfl, rfl, rfl, by rw [List.size_toArray, ul]; exact hz, by simpa using vr⟩) (fun c u z => nomatch (show (none : Option HO) = some u from z)) (fun c z => absurd rfl z) fun z => absurd rfl z
  | none =>
    have here : ∀ c, (if c = la then some (HO.frz { cls := .type "list", data := .seq us.toArray } (.lst (ns.map V.int))) else none) = none ∨ c = la := fun c => by
      by_cases e : c = la
      · exact .inr e
      · exact .inl (if_neg e)
    refine main (fun c => if c = la then some (HO.frz { cls := .type "list", data := .seq us.toArray } (.lst (ns.map V.int))) else none) (fun c => ?_) (.inl (.inr ⟨{ cls := .type "list", data := .seq us.toArray }, if_pos rfl⟩)) (fun c u z => ?_) (fun c z => ?_) fun _ => lk
    · rcases here c with e | e
      · exact .inl e
      · exact .inr ⟨_, _, if_pos e⟩
    · have z : (if c = la then some (HO.frz { cls := .type "list", data := .seq us.toArray } (.lst (ns.map V.int))) else none) = some u := z
      split at z
      · rename_i e
        cases z
        subst e
        exact ⟨hla, by rw [List.length_map]; exact hz, us, _, vr, hla⟩
      · cases z
    · rcases here c with e | e
      · exact absurd e z
      · exact e
/-- the goal that k_head leaves -/
theorem walkD {l : PySem.W.OpenLaw} {n lv : Nat} {q : Program} {loose : List Str} {XP : (Str → Option Value) → Heap → Prop} {YP : World → Heap → Prop} {d : DefRec} {K : Params → PySem.W.Frag} {g : Sig} {nm : Str}
    (most : l.most = some n) (nz : n ≤ sizeLine) (nodf : d.params.defaults = []) (room : Room lv callerA) (gd : callerA.guards = some []) (kin : ∀ (w : World) (h : Heap), YP w h → (K w.params).In h)
    (F : ∀ (w : World) (gl : Str → Option Value) (fa : Addr) (h : Heap), (K w.params).In h → h.Ns mainGlobals gl → gl d.name = some (.ref fa) →
      ∃ fd : FuncData, (∀ (z : Shared) (y : Value), BindsTo z fd ⟨[y], []⟩ [(nm, y)]) ∧ ∀ bs : Heap, (K w.params).In bs → bs.Ns mainGlobals gl → FnD l.prog w (K w.params) gl bs lv fa fd [nm] (spD (K w.params) g))
    (io : g.io = false) (run : ∀ ns : List Int, ns.length ≤ n → g.run [scrD ns] = some (.va (.bool true), [])) :
    PySem.W.WalkO q loose XP YP l.row.toRowW d [] (fun f us => PySem.call f us) := by
  refine Att.attach_call most nodf fun w s0 st gl bl fa ob pm cd doc la us ns G Y ho hd hcd hgl hobj iis hlen gen => ?_
  have KX := kin w _ Y
  obtain ⟨fd, bd, FF⟩ := F w gl fa _ KX G.T.g hgl
  exact lawD KX G.T.g G.T.b G.T.builtins G.T.nolimit gen hobj iis (Nat.le_trans hlen nz) room gd FF bd io (run ns hlen)
end Pd

/-! reading the small language's runs: loops, lists of ints -/
namespace Pd
open PySem PySem.Spec PyProof.Rows L2

/-! ### lists of ints -/
abbrev li (xs : List Int) : PyData := .list (xs.map PyData.int)
theorem canLay_ints : ∀ xs : List Int, PyData.canLayAll0 (xs.map PyData.int) = true
  | [] => rfl
  | x :: xs => by
    show (true && PyData.canLayAll0 (xs.map PyData.int)) = true
    rw [canLay_ints xs]
    rfl
theorem depth_ints : ∀ xs : List Int, PyData.depthAll (xs.map PyData.int) = 0
  | [] => rfl
  | x :: xs => by
    show max 0 (PyData.depthAll (xs.map PyData.int)) = 0
    rw [depth_ints xs]
    rfl
theorem shaped_li (xs : List Int) : SeqAt.shaped (li xs) = true := by
  unfold SeqAt.shaped
  rw [show (li xs).canLay0 = PyData.canLayAll0 (xs.map PyData.int) by rw [PyData.canLay0], canLay_ints]
  rw [show (li xs).depth = PyData.depthAll (xs.map PyData.int) + 1 by rw [PyData.depth], depth_ints]
  rfl
theorem shaped_tup (xs : List Int) : SeqAt.shaped (.tuple (xs.map PyData.int)) = true := by
  unfold SeqAt.shaped
  rw [show (PyData.tuple (xs.map PyData.int)).canLay0 = PyData.canLayAll0 (xs.map PyData.int) by rw [PyData.canLay0], canLay_ints]
  rw [show (PyData.tuple (xs.map PyData.int)).depth = PyData.depthAll (xs.map PyData.int) + 1 by rw [PyData.depth], depth_ints]
  rfl
theorem eqvAll_ints : ∀ xs ys : List Int, PyData.eqvAll (xs.map PyData.int) (ys.map PyData.int) = decide (xs = ys)
  | [], [] => rfl
  | [], y :: ys => by
    rw [List.map_nil, List.map_cons, PyData.eqvAll]
    simp
  | x :: xs, [] => by
    rw [List.map_nil, List.map_cons, PyData.eqvAll]
    simp
  | x :: xs, y :: ys => by
    rw [List.map_cons, List.map_cons, PyData.eqvAll, eqvAll_ints xs ys, PyData.eqv]
    simp only [List.cons.injEq]
    by_cases h : x = y <;> simp [h]
theorem eqv_li (xs ys : List Int) : PyData.eqv (li xs) (li ys) = decide (xs = ys) := by
  rw [PyData.eqv]
  exact eqvAll_ints xs ys
theorem cmp_eq_li (xs ys : List Int) : cmpD .eq (li xs) (li ys) = some (decide (xs = ys)) := by
  show (if (SeqAt.shaped (li xs) && SeqAt.shaped (li ys)) = true then some (PyData.eqv (li xs) (li ys)) else none) = _
  rw [shaped_li, shaped_li, eqv_li]
  rfl
theorem cmp_ne_li (xs ys : List Int) : cmpD .ne (li xs) (li ys) = some (!decide (xs = ys)) := by
  show (if (SeqAt.shaped (li xs) && SeqAt.shaped (li ys)) = true then some (!PyData.eqv (li xs) (li ys)) else none) = _
  rw [shaped_li, shaped_li, eqv_li]
  rfl
/-! written forms -/
theorem log2_le {n b : Nat} (h : n < 2 ^ b) : n.log2 ≤ b := by
  by_cases h0 : n = 0
  · subst h0
    simp
  · exact Nat.le_of_lt ((Nat.log2_lt h0).mpr h)
/-- an int that is short enough to be written, many times over -/
def sh (i : Int) : Prop := i.natAbs < 2 ^ 1000
theorem show_ints : ∀ xs : List Int, (∀ x ∈ xs, sh x) → PyData.showableAll (xs.map PyData.int) = true
  | [], _ => rfl
  | x :: xs, h => by
    show (decide (x.natAbs.log2 < 1920) && PyData.showableAll (xs.map PyData.int)) = true
    rw [show_ints xs fun y hy => h y (List.mem_cons_of_mem _ hy), decide_eq_true]
    · rfl
    · have := log2_le (h x List.mem_cons_self)
      omega
theorem wszs_ints : ∀ xs : List Int, (∀ x ∈ xs, sh x) → wszs (xs.map PyData.int) ≤ 1005 * xs.length
  | [], _ => by simp [wszs]
  | x :: xs, h => by
    have := wszs_ints xs fun y hy => h y (List.mem_cons_of_mem _ hy)
    have h2 := log2_le (h x List.mem_cons_self)
    rw [List.map_cons, wszs, wsz, List.length_cons]
    omega
theorem reprOk_li {xs : List Int} (h : ∀ x ∈ xs, sh x) (hl : xs.length ≤ 10000) : reprOk (li xs) = true := by
  have h1 := wszs_ints xs h
  have e1 : (li xs).canLay0 = true := by
    rw [show (li xs).canLay0 = PyData.canLayAll0 (xs.map PyData.int) by rw [PyData.canLay0], canLay_ints]
  have e2 : (li xs).showable = true := by
    rw [show (li xs).showable = PyData.showableAll (xs.map PyData.int) by rw [PyData.showable], show_ints xs h]
  have e3 : (li xs).depth = 1 := by
    rw [show (li xs).depth = PyData.depthAll (xs.map PyData.int) + 1 by rw [PyData.depth], depth_ints]
  have e4 : wsz (li xs) = wszs (xs.map PyData.int) + 3 := by rw [wsz]
  unfold reprOk
  rw [e1, e2, e3, e4, decide_eq_true (by omega), decide_eq_true (by omega)]
  rfl
/-- data of which a list is made that is written -/
structure Shw (d : PyData) (m : Nat) : Prop where
  lay : d.canLay0 = true
  shw : d.showable = true
  dep : d.depth ≤ 40
  siz : wsz d ≤ m
theorem Shw.ok {d : PyData} {m : Nat} (h : Shw d m) (hm : m ≤ 16777216) : reprOk d = true := by
  unfold reprOk
  rw [h.lay, h.shw, decide_eq_true (by have := h.dep; omega), decide_eq_true (by have := h.siz; omega)]
  rfl
theorem Shw.li {xs : List Int} (h : ∀ x ∈ xs, sh x) : Shw (li xs) (1005 * xs.length + 3) := by
  have h1 := wszs_ints xs h
  refine ⟨?_, ?_, ?_, ?_⟩
  · rw [show (Pd.li xs).canLay0 = PyData.canLayAll0 (xs.map PyData.int) by rw [PyData.canLay0], canLay_ints]
  · rw [show (Pd.li xs).showable = PyData.showableAll (xs.map PyData.int) by rw [PyData.showable], show_ints xs h]
  · rw [show (Pd.li xs).depth = PyData.depthAll (xs.map PyData.int) + 1 by rw [PyData.depth], depth_ints]
    omega
  · rw [show wsz (Pd.li xs) = wszs (xs.map PyData.int) + 3 by rw [wsz]]
    omega
theorem Shw.int {i : Int} (h : sh i) : Shw (.int i) 1003 := by
  have h2 := log2_le h
  refine ⟨rfl, ?_, ?_, ?_⟩
  · rw [PyData.showable]
    exact decide_eq_true (by omega)
  · rw [PyData.depth]
    omega
  · rw [wsz]
    omega
theorem shw_list {ds : List PyData} {m : Nat} (h : ∀ d ∈ ds, d.canLay0 = true ∧ d.showable = true ∧ d.depth ≤ 39 ∧ wsz d ≤ m) : Shw (.list ds) ((m + 2) * ds.length + 3) := by
  have : PyData.canLayAll0 ds = true ∧ PyData.showableAll ds = true ∧ PyData.depthAll ds ≤ 39 ∧ wszs ds ≤ (m + 2) * ds.length := by
    induction ds with
    | nil => exact ⟨rfl, rfl, Nat.zero_le _, by simp [wszs]⟩
    | cons d ds ih =>
      obtain ⟨a, b, c, e⟩ := h d List.mem_cons_self
      obtain ⟨a', b', c', e'⟩ := ih fun x hx => h x (List.mem_cons_of_mem _ hx)
      refine ⟨?_, ?_, ?_, ?_⟩
      · rw [PyData.canLayAll0, a, a']
        rfl
      · rw [PyData.showableAll, b, b']
        rfl
      · rw [PyData.depthAll]
        omega
      · rw [wszs, List.length_cons, Nat.mul_add]
        omega
  obtain ⟨a, b, c, e⟩ := this
  refine ⟨?_, ?_, ?_, ?_⟩
  · rw [PyData.canLay0]
    exact a
  · rw [PyData.showable]
    exact b
  · rw [PyData.depth]
    omega
  · rw [wsz]
    omega

/-! ### loops -/
theorem forL_fold {S X : Type} {tg : PyData → EnvD → Option EnvD} {b : EnvD → Option Out} (E : X → S → EnvD) (g : PyData → S → S) (P : S → Prop) : ∀ (items : List PyData),
    (∀ d ∈ items, ∀ x s, P s → ∃ x', (tg d (E x s)).bind b = some (.nx (E x' (g d s))) ∧ P (g d s)) → ∀ x s, P s → ∃ x', forL tg b items (E x s) = some (.nx (E x' (items.foldl (fun s d => g d s) s))) ∧ P (items.foldl (fun s d => g d s) s)
  | [], _, x, s, p => ⟨x, rfl, p⟩
  | d :: r, h, x, s, p => by
    obtain ⟨x1, h1, p1⟩ := h d List.mem_cons_self x s p
    obtain ⟨x2, h2, p2⟩ := forL_fold E g P r (fun d' hd => h d' (List.mem_cons_of_mem _ hd)) x1 _ p1
    refine ⟨x2, ?_, p2⟩
    rw [Option.bind_eq_some_iff] at h1
    obtain ⟨e1, z1, z2⟩ := h1
    unfold forL
    rw [z1]
    show (b e1).bind _ = _
    rw [z2]
    exact h2
/-- for i in range(n) -/
theorem forL_range {S X : Type} {tg : PyData → EnvD → Option EnvD} {b : EnvD → Option Out} (E : X → S → EnvD) (s : Nat → S) (f : Nat → PyData) : ∀ (n k : Nat),
    (∀ i, k ≤ i → i < k + n → ∀ x, ∃ x', (tg (f i) (E x (s i))).bind b = some (.nx (E x' (s (i + 1))))) → ∀ x, ∃ x', forL tg b ((List.range' k n).map f) (E x (s k)) = some (.nx (E x' (s (k + n))))
  | 0, k, _, x => ⟨x, rfl⟩
  | n + 1, k, h, x => by
    obtain ⟨x1, h1⟩ := h k (Nat.le_refl _) (by omega) x
    obtain ⟨x2, h2⟩ := forL_range E s f n (k + 1) (fun i h1 h2 => h i (by omega) (by omega)) x1
    refine ⟨x2, ?_⟩
    rw [Option.bind_eq_some_iff] at h1
    obtain ⟨e1, z1, z2⟩ := h1
    rw [List.range'_succ, List.map_cons]
    unfold forL
    rw [z1]
    show (b e1).bind _ = _
    rw [z2]
    rw [show k + (n + 1) = k + 1 + n by omega]
    exact h2
theorem whlL_mono {c : EnvD → Option (Bool × EnvD)} {b : EnvD → Option Out} : ∀ {m n : Nat} {e : EnvD} {o : Out}, m ≤ n → whlL c b m e = some o → whlL c b n e = some o
  | 0, _, _, _, _, h => by cases h
  | m + 1, 0, _, _, hl, _ => absurd hl (by omega)
  | m + 1, n + 1, e, o, hl, h => by
    unfold whlL at h ⊢
    rw [Option.bind_eq_some_iff] at h ⊢
    obtain ⟨p, h1, h2⟩ := h
    refine ⟨p, h1, ?_⟩
    obtain ⟨t, e1⟩ := p
    cases t with
    | false => exact h2
    | true =>
      dsimp only at h2 ⊢
      rw [Option.bind_eq_some_iff] at h2 ⊢
      obtain ⟨o1, h3, h4⟩ := h2
      refine ⟨o1, h3, ?_⟩
      cases o1 with
      | nx e2 => exact whlL_mono (by omega) h4
      | rt r e2 => exact h4
/-- a comprehension without tests whose element changes a state -/
theorem compL_st {S : Type} {tg : PyData → EnvD → Option EnvD} {ts : EnvD → Option (Bool × EnvD)} {el : EnvD → Option (PyData × EnvD)} {own : List Nat} (E : S → EnvD) (g : PyData → S → S) (r : PyData → S → PyData) (P : S → Prop) : ∀ (items : List PyData),
    (∀ d ∈ items, ∀ s, P s → ∃ e1 e2 e3, tg d (E s) = some e1 ∧ ts e1 = some (true, e2) ∧ el e2 = some (r d s, e3) ∧ wipe1 e3 own = E (g d s) ∧ P (g d s)) → ∀ s, P s → ∃ out s', compL tg ts el own items (E s) = some (out, E s') ∧ P s' ∧ out.length = items.length ∧
      (items.foldl (fun (q : List PyData × S) d => (q.1 ++ [r d q.2], g d q.2)) ([], s)) = (out, s')
  | [], _, s, p => ⟨[], s, rfl, p, rfl, rfl⟩
  | d :: rs, h, s, p => by
    obtain ⟨e1, e2, e3, z1, z2, z3, z4, p1⟩ := h d List.mem_cons_self s p
    obtain ⟨out, s', h1, p2, hl, hf⟩ := compL_st E g r P rs (fun d' hd => h d' (List.mem_cons_of_mem _ hd)) _ p1
    refine ⟨r d s :: out, s', ?_, p2, by simp [hl], ?_⟩
    · unfold compL
      rw [z1]
      show (ts e1).bind _ = _
      rw [z2]
      show (el e2).bind _ = _
      rw [z3]
      show (compL tg ts el own rs (wipe1 e3 own)).bind _ = _
      rw [z4, h1]
      rfl
    · rw [List.foldl_cons]
      have gen : ∀ (xs : List PyData) (a b : List PyData) (t : S), xs.foldl (fun (q : List PyData × S) d => (q.1 ++ [r d q.2], g d q.2)) (a ++ b, t) = (a ++ (xs.foldl (fun (q : List PyData × S) d => (q.1 ++ [r d q.2], g d q.2)) (b, t)).1, (xs.foldl (fun (q : List PyData × S) d => (q.1 ++ [r d q.2], g d q.2)) (b, t)).2) := by
        intro xs
        induction xs with
        | nil => intro a b t; rfl
        | cons x xs ih =>
          intro a b t
          rw [List.foldl_cons, List.foldl_cons]
          dsimp only
          rw [List.append_assoc]
          exact ih a (b ++ [r x t]) (g x t)
      have := gen rs [r d s] [] (g d s)
      rw [List.append_nil] at this
      show rs.foldl _ ([] ++ [r d s], g d s) = _
      rw [List.nil_append, this, hf]
      rfl
/-- .. that changes nothing -/
theorem compL_map {tg : PyData → EnvD → Option EnvD} {ts : EnvD → Option (Bool × EnvD)} {el : EnvD → Option (PyData × EnvD)} {own : List Nat} (E : EnvD) (r : PyData → PyData) : ∀ (items : List PyData),
    (∀ d ∈ items, ∃ e1 e2 e3, tg d E = some e1 ∧ ts e1 = some (true, e2) ∧ el e2 = some (r d, e3) ∧ wipe1 e3 own = E) → compL tg ts el own items E = some (items.map r, E)
  | [], _ => rfl
  | d :: rs, h => by
    obtain ⟨e1, e2, e3, z1, z2, z3, z4⟩ := h d List.mem_cons_self
    unfold compL
    rw [z1]
    show (ts e1).bind _ = _
    rw [z2]
    show (el e2).bind _ = _
    rw [z3]
    show (compL tg ts el own rs (wipe1 e3 own)).bind _ = _
    rw [z4, compL_map E r rs fun d' hd => h d' (List.mem_cons_of_mem _ hd)]
    rfl
theorem allInts_of {xs : List Int} : allInts (xs.map PyData.int) = some xs := allInts_map xs
theorem ints1 {b : Int} (h : -1000000000000 ≤ b ∧ b ≤ 1000000000000) : ints3 [.int b] = some ((List.range b.toNat).map fun (k : Nat) => (k : Int)) := by
  exact if_pos h
theorem ints2 {a b : Int} (h : -1000000000000 ≤ a ∧ a ≤ 1000000000000 ∧ -1000000000000 ≤ b ∧ b ≤ 1000000000000) : ints3 [.int a, .int b] = some ((List.range (b - a).toNat).map fun (k : Nat) => a + (k : Int)) := by
  exact if_pos h
/-- a def told by its runs -/
theorem FnD.imp {P : Program} {w : World} {K : PySem.W.Frag} {mg : Str → Option Value} {base : Heap} {k : Nat} {f : Addr} {fd : FuncData} {ps : List Str} {g g' : Sig} (F : FnD P w K mg base k f fd ps (spD K g)) (hio : g'.io = g.io) (h : ∀ ds z, g'.run ds = some z → g.run ds = some z) : FnD P w K mg base k f fd ps (spD K g') := by
  have hs : ∀ vs H Q E, spD K g' vs H Q E → spD K g vs H Q E := fun vs H Q E q => by
    rcases q with ⟨a, G, ds, r, x, e1, e2, e3, e4⟩ | ⟨a, G, b, xs, ds0, ws, ds, r, x, e1, e2, e3, e4, e5, e6, e7, e8⟩
    · exact .inl ⟨hio ▸ a, G, ds, r, x, e1, e2, h _ _ e3, e4⟩
    · exact .inr ⟨hio ▸ a, G, b, xs, ds0, ws, ds, r, x, e1, e2, e3, e4, e5, e6, h _ _ e7, e8⟩
  exact ⟨fun vs H Q E q => F.len vs H Q E (hs _ _ _ _ q), fun A outer s H args us vs Q E hr hg e0 hb hv q => F.run A outer s H args us vs Q E hr hg e0 hb hv (hs _ _ _ _ q)⟩
end Pd

/-! the defs of a module, one after another -/
namespace Pd
open PySem PySem.Spec PyProof.Rows L2
structure GI (P : Program) (w : World) (K : PySem.W.Frag) (mg : Str → Option Value) (base : Heap) (Γ : Tab) (lv : Nat) (fns : List FnI) (glb : List (Str × PyData)) : Prop where
  bi : ∀ x ∈ bNames, mg x = none
  fns : ∀ x k g, fnAt x fns 0 = some (k, g) → ∃ sig f fd, Γ k = some sig ∧ mg x = some (.ref f) ∧ PySem.W.keepIn K (.ref f) = true ∧ FnD P w K mg base lv f fd g.ps (spD K sig) ∧ ∀ m ks pm, shapeAt m ks g.shapes = some pm → BindsD K fd g.ps m ks pm
  glb : ∀ x d, glb.lookup x = some d → ∃ v u, mg x = some u ∧ RelV v u ∧ ∀ G, Rp K G v d
def BAll (K : PySem.W.Frag) (fd : FuncData) (ps : List Str) : List (Nat × List Str × List Nat) → Prop
  | [] => True
  | (m, ks, pm) :: r => BindsD K fd ps m ks pm ∧ BAll K fd ps r
theorem BAll.at {K : PySem.W.Frag} {fd : FuncData} {ps : List Str} : ∀ {sh : List (Nat × List Str × List Nat)}, BAll K fd ps sh → ∀ m ks pm, shapeAt m ks sh = some pm → BindsD K fd ps m ks pm
  | [], _, m, ks, pm, h => by cases h
  | (a, b, q) :: r, hb, m, ks, pm, h => by
    unfold shapeAt at h
    split at h
    · rename_i e
      rw [Bool.and_eq_true] at e
      cases h
      have e1 := eq_of_beq e.1
      have e2 := eq_of_beq e.2
      subst e1
      subst e2
      exact hb.1
    · exact BAll.at hb.2 m ks pm h
def GAll (K : PySem.W.Frag) (mg : Str → Option Value) : List (Str × PyData) → Prop
  | [] => True
  | (x, d) :: r => (∃ v u, mg x = some u ∧ RelV v u ∧ ∀ G, Rp K G v d) ∧ GAll K mg r
theorem GAll.at {K : PySem.W.Frag} {mg : Str → Option Value} : ∀ {l : List (Str × PyData)}, GAll K mg l → ∀ x d, l.lookup x = some d → ∃ v u, mg x = some u ∧ RelV v u ∧ ∀ G, Rp K G v d
  | [], _, x, d, h => by cases h
  | (y, e) :: r, hg, x, d, h => by
    rw [List.lookup_cons] at h
    split at h
    · rename_i q
      cases h
      rw [eq_of_beq q]
      exact hg.1
    · exact GAll.at hg.2 x d h
theorem fnAt_snoc {x : Str} {g : FnI} : ∀ {fs : List FnI} {k0 k : Nat} {g' : FnI}, fnAt x (fs ++ [g]) k0 = some (k, g') → fnAt x fs k0 = some (k, g') ∨ (k = k0 + fs.length ∧ g' = g ∧ g.name = x)
  | [], k0, k, g', h => by
    have h : (if g.name == x then some (k0, g) else fnAt x [] (k0 + 1)) = some (k, g') := h
    by_cases e : (g.name == x) = true
    · rw [if_pos e] at h
      cases h
      exact .inr ⟨rfl, rfl, eq_of_beq e⟩
    · rw [if_neg e] at h
      cases h
  | f :: fs, k0, k, g', h => by
    have h : (if f.name == x then some (k0, f) else fnAt x (fs ++ [g]) (k0 + 1)) = some (k, g') := h
    show (if f.name == x then some (k0, f) else fnAt x fs (k0 + 1)) = some (k, g') ∨ _
    by_cases e : (f.name == x) = true
    · rw [if_pos e] at h ⊢
      exact .inl h
    · rw [if_neg e] at h ⊢
      rcases fnAt_snoc h with z | ⟨z1, z2, z3⟩
      · exact .inl z
      · exact .inr ⟨by rw [z1, List.length_cons]; omega, z2, z3⟩
section
variable {P : Program} {w : World} {K : PySem.W.Frag} {mg : Str → Option Value} {base : Heap} {Γ : Tab} {lv n : Nat}
theorem GI.start (bi : ∀ x ∈ bNames, mg x = none) {glb : List (Str × PyData)} (hg : GAll K mg glb) : GI P w K mg base Γ 0 [] glb :=
  ⟨bi, (fun x k g h => nomatch h), hg.at⟩
/-- one def more -/
theorem GI.step {c : CC} {st : Stmt} {f : Addr} {fd : FuncData} {g : FnI} {qual : Str} {m : Nat} {io : Bool} {irs : Sms} {fr : List PyData → Option (Rv × List PyData)} (h : GI P w K mg base Γ lv c.fns c.glb) (F : Fun K g.name qual st f fd) (S : FnScope c.N g.ps (defScope st)) (hsc : c.sc = defScope st) (hb : cSs m c (defBody st) = some irs)
    (hd : ∀ ds z, fr ds = some z → runD Γ n io c.N.length irs ds = some z) (hl : ∀ ds z, fr ds = some z → ds.length = g.ps.length) (e1 : Γ c.fns.length = some ⟨io, fr⟩) (e2 : mg g.name = some (.ref f)) (B : BAll K fd g.ps g.shapes) :
    FnD P w K mg base (lv + 1) f fd g.ps (spD K ⟨io, fr⟩) ∧ GI P w K mg base Γ (lv + 1) (c.fns ++ [g]) c.glb := by
  have D := def_ok (n := n) (io := io) F S hsc (⟨h.bi, h.fns, h.glb⟩ : GO P w K mg base c Γ lv) hb
  have D' : FnD P w K mg base (lv + 1) f fd g.ps (spD K ⟨io, fr⟩) := D.imp rfl fun ds z hz => by
    show (if ds.length = g.ps.length then runD Γ n io c.N.length irs ds else none) = some z
    rw [if_pos (hl ds z hz)]
    exact hd ds z hz
  refine ⟨D', h.bi, fun x k g' hx => ?_, h.glb⟩
  rcases fnAt_snoc hx with z | ⟨z1, z2, z3⟩
  · obtain ⟨sig, f', fd', q1, q2, q3, q4, q5⟩ := h.fns x k g' z
    exact ⟨sig, f', fd', q1, q2, q3, q4.mono (Nat.le_succ _), q5⟩
  · subst z2
    subst z3
    rw [Nat.zero_add] at z1
    subst z1
    exact ⟨_, f, fd, e1, e2, F.kp, D', B.at⟩
theorem bindsD_mk {x qual : Str} {st : Stmt} {f : Addr} {fd : FuncData} {ps ks : List Str} {m : Nat} {pm : List Nat} (F : Fun K x qual st f fd)
    (h : ∀ (kV doc pm' : Value) (an : Option Addr) (cdv ct : Value) (us ws : List Value), us.length = m → ws.length = ks.length → bindArgs (PySem.W.fnOf x qual (defArgs st) (defBody st) (defScope st) .none kV doc pm' an cdv ct) ⟨us, ks.zip ws⟩ = pure (ps.zip (permF (us ++ ws) pm))) : BindsD K fd ps m ks pm := by
  obtain ⟨oc, od, kV, doc, pm', an, cdv, ct, osl, rfl, lk, hcd⟩ := F.ex
  exact fun s us ws _ hu hw => .of_eq (h kV doc pm' an cdv ct us ws hu hw)
end
end Pd

/-! the small language's runs, step by step -/
namespace Pd
open PySem PySem.Spec PyProof.Rows L2
section
variable {Γ : Tab} {n : Nat} {env e1 e2 e3 e4 : EnvD} {a b c : Ex} {o o1 o2 o3 : Opd} {x y : PyData}
theorem x_bin {op : Bop} {r : Rv} (h1 : evE Γ a env = some (o1, e1)) (h2 : evE Γ b e1 = some (o2, e2)) (h3 : res e2 o1 = some x) (h4 : res e2 o2 = some y) (h5 : binD op x y = some r) : evE Γ (.bin op a b) env = some (r.opd, e2) := by
  rw [evE, h1]; show (evE Γ b e1).bind _ = _; rw [h2]; show (res e2 o1).bind _ = _; rw [h3]; show (res e2 o2).bind _ = _; rw [h4]; show (binD op x y).bind _ = _; rw [h5]; rfl
theorem x_binV {op : Bop} {d : PyData} (h1 : evE Γ a env = some (o1, e1)) (h2 : evE Γ b e1 = some (o2, e2)) (h3 : res e2 o1 = some x) (h4 : res e2 o2 = some y) (h5 : binD op x y = some (.va d)) : evE Γ (.bin op a b) env = some (.va d, e2) := x_bin h1 h2 h3 h4 h5
theorem x_binO {op : Bop} {ds : List PyData} (h1 : evE Γ a env = some (o1, e1)) (h2 : evE Γ b e1 = some (o2, e2)) (h3 : res e2 o1 = some x) (h4 : res e2 o2 = some y) (h5 : binD op x y = some (.ow ds)) : evE Γ (.bin op a b) env = some (.ow ds, e2) := x_bin h1 h2 h3 h4 h5
theorem x_mul {i j : Int} (h1 : evE Γ a env = some (o1, e1)) (h2 : evE Γ b e1 = some (o2, e2)) (h3 : res e2 o1 = some (.int i)) (h4 : res e2 o2 = some (.int j)) (h5 : mulOk i j = true) : evE Γ (.bin .mul a b) env = some (.va (.int (i * j)), e2) :=
  x_bin (r := .va (.int (i * j))) h1 h2 h3 h4 (if_pos h5)
theorem x_fdiv {i j : Int} (h1 : evE Γ a env = some (o1, e1)) (h2 : evE Γ b e1 = some (o2, e2)) (h3 : res e2 o1 = some (.int i)) (h4 : res e2 o2 = some (.int j)) (h5 : divOk j = true) : evE Γ (.bin .fdiv a b) env = some (.va (.int (i / j)), e2) :=
  x_bin (r := .va (.int (i / j))) h1 h2 h3 h4 (if_pos h5)
theorem x_md {i j : Int} (h1 : evE Γ a env = some (o1, e1)) (h2 : evE Γ b e1 = some (o2, e2)) (h3 : res e2 o1 = some (.int i)) (h4 : res e2 o2 = some (.int j)) (h5 : 0 < j) : evE Γ (.bin .md a b) env = some (.va (.int (i % j)), e2) :=
  x_bin (r := .va (.int (i % j))) h1 h2 h3 h4 (if_pos h5)
theorem x_neg {i : Int} (h1 : evE Γ a env = some (.va (.int i), e1)) : evE Γ (.neg a) env = some (.va (.int (-i)), e1) := by
  rw [evE, h1]; rfl
theorem x_cmp {op : Cop} {t : Bool} (h1 : evE Γ a env = some (o1, e1)) (h2 : evE Γ b e1 = some (o2, e2)) (h3 : res e2 o1 = some x) (h4 : res e2 o2 = some y) (h5 : cmpD op x y = some t) : evE Γ (.cmp op a b) env = some (.va (.bool t), e2) := by
  rw [evE, h1]; show (evE Γ b e1).bind _ = _; rw [h2]; show (res e2 o1).bind _ = _; rw [h3]; show (res e2 o2).bind _ = _; rw [h4]; show (cmpD op x y).bind _ = _; rw [h5]; rfl
theorem x_isc {ng t : Bool} {d k : PyData} (h1 : evE Γ a env = some (.va d, e1)) (h2 : isD ng k d = some t) : evE Γ (.isc ng k a) env = some (.va (.bool t), e1) := by
  rw [evE, h1]; show (isD ng k d).bind _ = _; rw [h2]; rfl
theorem x_inn {ng t : Bool} (h1 : evE Γ a env = some (o1, e1)) (h2 : evE Γ b e1 = some (o2, e2)) (h3 : res e2 o1 = some x) (h4 : res e2 o2 = some y) (h5 : innD ng x y = some t) : evE Γ (.inn ng a b) env = some (.va (.bool t), e2) := by
  rw [evE, h1]; show (evE Γ b e1).bind _ = _; rw [h2]; show (res e2 o1).bind _ = _; rw [h3]; show (res e2 o2).bind _ = _; rw [h4]; show (innD ng x y).bind _ = _; rw [h5]; rfl
theorem x_and {t : Bool} {p : Opd × EnvD} (h1 : evE Γ a env = some (.va (.bool t), e1)) (h2 : (if t = true then evE Γ b e1 else some (.va (.bool false), e1)) = some p) : evE Γ (.and_ a b) env = some p := by
  rw [evE, h1]
  cases t with
  | true => exact h2
  | false => exact h2
theorem x_or {t : Bool} {p : Opd × EnvD} (h1 : evE Γ a env = some (.va (.bool t), e1)) (h2 : (if t = true then some (.va (.bool true), e1) else evE Γ b e1) = some p) : evE Γ (.or_ a b) env = some p := by
  rw [evE, h1]
  cases t with
  | true => exact h2
  | false => exact h2
/-- a or b, a false -/
theorem x_orF {p : Opd × EnvD} (h1 : evE Γ a env = some (.va (.bool false), e1)) (h2 : evE Γ b e1 = some p) : evE Γ (.or_ a b) env = some p := x_or h1 h2
theorem x_andT {p : Opd × EnvD} (h1 : evE Γ a env = some (.va (.bool true), e1)) (h2 : evE Γ b e1 = some p) : evE Γ (.and_ a b) env = some p := x_and h1 h2
theorem x_andF (h1 : evE Γ a env = some (.va (.bool false), e1)) : evE Γ (.and_ a b) env = some (.va (.bool false), e1) := x_and h1 rfl
theorem x_orT (h1 : evE Γ a env = some (.va (.bool true), e1)) : evE Γ (.or_ a b) env = some (.va (.bool true), e1) := x_or h1 rfl
theorem x_not {t : Bool} (h1 : evE Γ a env = some (.va (.bool t), e1)) : evE Γ (.not_ a) env = some (.va (.bool (!t)), e1) := by
  rw [evE, h1]; rfl
theorem x_ite {t : Bool} {p : Opd × EnvD} (h1 : evE Γ c env = some (.va (.bool t), e1)) (h2 : (if t = true then evE Γ a e1 else evE Γ b e1) = some p) : evE Γ (.ite c a b) env = some p := by
  rw [evE, h1]
  cases t with
  | true => exact h2
  | false => exact h2
theorem x_lst {es : Exs} {os : List Opd} {ds : List PyData} (h1 : evEs Γ es env = some (os, e1)) (h2 : frzs e1 os = some (ds, e2)) (h3 : ds.length ≤ 16777216) : evE Γ (.lst es) env = some (.ow ds, e2) := by
  rw [evE, h1]; show (frzs e1 os).bind _ = _; rw [h2]; exact if_pos h3
theorem x_tup {es : Exs} {os : List Opd} {ds : List PyData} (h1 : evEs Γ es env = some (os, e1)) (h2 : frzs e1 os = some (ds, e2)) (h3 : ds.length ≤ 16777216) : evE Γ (.tup es) env = some (.va (.tuple ds), e2) := by
  rw [evE, h1]; show (frzs e1 os).bind _ = _; rw [h2]; exact if_pos h3
theorem x_idx {d : PyData} (h1 : evE Γ a env = some (o1, e1)) (h2 : evE Γ b e1 = some (o2, e2)) (h3 : res e2 o1 = some x) (h4 : res e2 o2 = some y) (h5 : idxD x y = some d) : evE Γ (.idx a b) env = some (.va d, e2) := by
  rw [evE, h1]; show (evE Γ b e1).bind _ = _; rw [h2]; show (res e2 o1).bind _ = _; rw [h3]; show (res e2 o2).bind _ = _; rw [h4]; show (idxD x y).bind _ = _; rw [h5]; rfl
theorem x_slc {l u : Eo} {lo hi : Option Int} {r : Rv} (h1 : evE Γ a env = some (o1, e1)) (h2 : evO Γ l e1 = some (lo, e2)) (h3 : evO Γ u e2 = some (hi, e3)) (h4 : res e3 o1 = some x) (h5 : slcD x lo hi = some r) : evE Γ (.slc a l u) env = some (r.opd, e3) := by
  rw [evE, h1]; show (evO Γ l e1).bind _ = _; rw [h2]; show (evO Γ u e2).bind _ = _; rw [h3]; show (res e3 o1).bind _ = _; rw [h4]; show (slcD x lo hi).bind _ = _; rw [h5]; rfl
theorem x_bi {f : Bi} {es : Exs} {os : List Opd} {ds : List PyData} {r : Rv} (h1 : evEs Γ es env = some (os, e1)) (h2 : ress e1 os = some ds) (h3 : biD f ds = some r) : evE Γ (.bi f es) env = some (r.opd, e1) := by
  rw [evE, h1]; show (ress e1 os).bind _ = _; rw [h2]; show (biD f ds).bind _ = _; rw [h3]; rfl
theorem x_biV {f : Bi} {es : Exs} {os : List Opd} {ds : List PyData} {d : PyData} (h1 : evEs Γ es env = some (os, e1)) (h2 : ress e1 os = some ds) (h3 : biD f ds = some (.va d)) : evE Γ (.bi f es) env = some (.va d, e1) := x_bi h1 h2 h3
theorem x_biO {f : Bi} {es : Exs} {os : List Opd} {ds es' : List PyData} (h1 : evEs Γ es env = some (os, e1)) (h2 : ress e1 os = some ds) (h3 : biD f ds = some (.ow es')) : evE Γ (.bi f es) env = some (.ow es', e1) := x_bi h1 h2 h3
theorem x_slcV {l u : Eo} {lo hi : Option Int} {d : PyData} (h1 : evE Γ a env = some (o1, e1)) (h2 : evO Γ l e1 = some (lo, e2)) (h3 : evO Γ u e2 = some (hi, e3)) (h4 : res e3 o1 = some x) (h5 : slcD x lo hi = some (.va d)) : evE Γ (.slc a l u) env = some (.va d, e3) := x_slc h1 h2 h3 h4 h5
theorem x_slcO {l u : Eo} {lo hi : Option Int} {ds : List PyData} (h1 : evE Γ a env = some (o1, e1)) (h2 : evO Γ l e1 = some (lo, e2)) (h3 : evO Γ u e2 = some (hi, e3)) (h4 : res e3 o1 = some x) (h5 : slcD x lo hi = some (.ow ds)) : evE Γ (.slc a l u) env = some (.ow ds, e3) := x_slc h1 h2 h3 h4 h5
theorem x_isi {ts : List Ty} (h1 : evE Γ a env = some (o1, e1)) (h3 : res e1 o1 = some x) (h4 : (plainD x && decide (ts.length ≤ 100)) = true) : evE Γ (.isi ts a) env = some (.va (.bool (ts.any (isTy x))), e1) := by
  rw [evE, h1]; show (res e1 o1).bind _ = _; rw [h3]; exact if_pos h4
theorem x_call {f : Nat} {es ks : Exs} {pm : List Nat} {os ps : List Opd} {g : Sig} {ds as : List PyData} {r : Rv} {x : List PyData} (hg : Γ f = some g) (hio : g.io = false) (h1 : evEs Γ es env = some (os, e1)) (h2 : evEs Γ ks e1 = some (ps, e2)) (h3 : frzs e2 (os ++ ps) = some (ds, e3)) (h4 : perm ds pm = some as) (h5 : g.run as = some (r, x)) :
    evE Γ (.call f es ks pm) env = some (r.opd, e3) := by
  rw [evE, h1]; show (evEs Γ ks e1).bind _ = _; rw [h2]; show (Γ f).bind _ = _; rw [hg]; show callF g pm e2 (os ++ ps) = _
  unfold callF
  rw [hio]
  show (frzs e2 (os ++ ps)).bind _ = _
  rw [h3]; show (perm ds pm).bind _ = _; rw [h4]; show (g.run as).bind _ = _; rw [h5]; rfl
theorem x_callV {f : Nat} {es ks : Exs} {pm : List Nat} {os ps : List Opd} {fr : List PyData → Option (Rv × List PyData)} {ds as : List PyData} {d : PyData} {x : List PyData} (hg : Γ f = some ⟨false, fr⟩) (h1 : evEs Γ es env = some (os, e1)) (h2 : evEs Γ ks e1 = some (ps, e2)) (h3 : frzs e2 (os ++ ps) = some (ds, e3)) (h4 : perm ds pm = some as) (h5 : fr as = some (.va d, x)) :
    evE Γ (.call f es ks pm) env = some (.va d, e3) := x_call hg rfl h1 h2 h3 h4 h5
theorem x_callL {f : Nat} {es ks : Exs} {pm : List Nat} {os ps : List Opd} {fr : List PyData → Option (Rv × List PyData)} {ds as es' : List PyData} {x : List PyData} (hg : Γ f = some ⟨false, fr⟩) (h1 : evEs Γ es env = some (os, e1)) (h2 : evEs Γ ks e1 = some (ps, e2)) (h3 : frzs e2 (os ++ ps) = some (ds, e3)) (h4 : perm ds pm = some as) (h5 : fr as = some (.ow es', x)) :
    evE Γ (.call f es ks pm) env = some (.ow es', e3) := x_call hg rfl h1 h2 h3 h4 h5
/-- a call that changes the list of the name i -/
theorem x_callS {f i : Nat} {es : Exs} {pm : List Nat} {os : List Opd} {g : Sig} {dp ds x : List PyData} {r : Rv} {io : Bool} (hg : Γ f = some g) (hio : g.io = true) (h1 : evEs Γ es env = some (.sl i :: os, e1)) (hp : pm = List.range (os.length + 1)) (h3 : frzs e1 os = some (ds, e2)) (h4 : e2[i]? = some (if io then .io dp else .ow dp)) (h5 : g.run (.list dp :: ds) = some (r, x)) :
    evE Γ (.call f es .nil pm) env = some (r.opd, e2.set i (if io then .io x else .ow x)) := by
  subst hp
  rw [evE, h1]
  show (Γ f).bind _ = _
  rw [hg]
  show callF g _ e1 ((.sl i :: os) ++ []) = _
  rw [List.append_nil]
  unfold callF
  rw [hio]
  show (if List.range (os.length + 1) = List.range (os.length + 1) then _ else none) = _
  rw [if_pos rfl, h3]
  show (match e2[i]? with
      | some (.ow ds_1) => (g.run (.list ds_1 :: ds)).bind fun r => some (r.1.opd, e2.set i (.ow r.2))
      | some (.io ds_1) => (g.run (.list ds_1 :: ds)).bind fun r => some (r.1.opd, e2.set i (.io r.2))
      | _ => none) = _
  rw [h4]
  cases io with
  | true =>
    show (g.run (.list dp :: ds)).bind _ = _
    rw [h5]
    rfl
  | false =>
    show (g.run (.list dp :: ds)).bind _ = _
    rw [h5]
    rfl
theorem x_callSI {f i : Nat} {es : Exs} {pm : List Nat} {os : List Opd} {fr : List PyData → Option (Rv × List PyData)} {dp ds x : List PyData} {d : PyData} (hg : Γ f = some ⟨true, fr⟩) (h1 : evEs Γ es env = some (.sl i :: os, e1)) (hp : pm = List.range (os.length + 1)) (h3 : frzs e1 os = some (ds, e2)) (h4 : e2[i]? = some (.io dp)) (h5 : fr (.list dp :: ds) = some (.va d, x)) (h6 : e2.set i (.io x) = e3) :
    evE Γ (.call f es .nil pm) env = some (.va d, e3) := by
  subst h6
  exact x_callS (io := true) (r := .va d) hg rfl h1 hp h3 h4 h5
theorem x_callSL {f i : Nat} {es : Exs} {pm : List Nat} {os : List Opd} {fr : List PyData → Option (Rv × List PyData)} {dp ds x es' : List PyData} (hg : Γ f = some ⟨true, fr⟩) (h1 : evEs Γ es env = some (.sl i :: os, e1)) (hp : pm = List.range (os.length + 1)) (h3 : frzs e1 os = some (ds, e2)) (h4 : e2[i]? = some (.io dp)) (h5 : fr (.list dp :: ds) = some (.ow es', x)) (h6 : e2.set i (.io x) = e3) :
    evE Γ (.call f es .nil pm) env = some (.ow es', e3) := by
  subst h6
  exact x_callS (io := true) (r := .ow es') hg rfl h1 hp h3 h4 h5
/-- the list of the name i is one's own -/
theorem x_callSO {f i : Nat} {es : Exs} {pm : List Nat} {os : List Opd} {fr : List PyData → Option (Rv × List PyData)} {dp ds x : List PyData} {d : PyData} (hg : Γ f = some ⟨true, fr⟩) (h1 : evEs Γ es env = some (.sl i :: os, e1)) (hp : pm = List.range (os.length + 1)) (h3 : frzs e1 os = some (ds, e2)) (h4 : e2[i]? = some (.ow dp)) (h5 : fr (.list dp :: ds) = some (.va d, x)) (h6 : e2.set i (.ow x) = e3) :
    evE Γ (.call f es .nil pm) env = some (.va d, e3) := by
  subst h6
  exact x_callS (io := false) (r := .va d) hg rfl h1 hp h3 h4 h5
/-- .. that changes a list just made -/
theorem x_callO {f : Nat} {es : Exs} {pm : List Nat} {os : List Opd} {g : Sig} {dp ds x : List PyData} {r : Rv} (hg : Γ f = some g) (hio : g.io = true) (h1 : evEs Γ es env = some (.ow dp :: os, e1)) (hp : pm = List.range (os.length + 1)) (h3 : frzs e1 os = some (ds, e2)) (h5 : g.run (.list dp :: ds) = some (r, x)) :
    evE Γ (.call f es .nil pm) env = some (r.opd, e2) := by
  subst hp
  rw [evE, h1]
  show (Γ f).bind _ = _
  rw [hg]
  show callF g _ e1 ((.ow dp :: os) ++ []) = _
  rw [List.append_nil]
  unfold callF
  rw [hio]
  show (if List.range (os.length + 1) = List.range (os.length + 1) then _ else none) = _
  rw [if_pos rfl, h3]
  show (g.run (.list dp :: ds)).bind _ = _
  rw [h5]
  rfl
theorem x_callOV {f : Nat} {es : Exs} {pm : List Nat} {os : List Opd} {fr : List PyData → Option (Rv × List PyData)} {dp ds x : List PyData} {d : PyData} (hg : Γ f = some ⟨true, fr⟩) (h1 : evEs Γ es env = some (.ow dp :: os, e1)) (hp : pm = List.range (os.length + 1)) (h3 : frzs e1 os = some (ds, e2)) (h5 : fr (.list dp :: ds) = some (.va d, x)) :
    evE Γ (.call f es .nil pm) env = some (.va d, e2) := x_callO hg rfl h1 hp h3 h5
theorem x_mutO {m : Mut} {i : Nat} {es : Exs} {os : List Opd} {dp ds ds' : List PyData} {d : PyData} (h0 : isOwn env i = true) (h1 : evEs Γ es env = some (os, e1)) (h2 : frzs e1 os = some (ds, e2)) (h3 : e2[i]? = some (.ow dp)) (h4 : mutD m dp ds = some (ds', d)) (h5 : e2.set i (.ow ds') = e3) : evE Γ (.mut m i es) env = some (.va d, e3) := by
  subst h5
  rw [evE, if_pos h0, h1]
  show (frzs e1 os).bind _ = _
  rw [h2]
  show (match e2[i]? with
    | some (.ow dp) => (mutD m dp ds).bind fun r => some (Opd.va r.2, e2.set i (.ow r.1))
    | some (.io dp) => (mutD m dp ds).bind fun r => some (.va r.2, e2.set i (.io r.1))
    | _ => none) = _
  rw [h3]
  show (mutD m dp ds).bind _ = _
  rw [h4]
  rfl
theorem x_comp {el : Ex} {tg : Tg} {sr : Src} {ts : Exs} {own : List Nat} {items out : List PyData} {env2 : EnvD} (h1 : evS Γ sr env = some (items, e1)) (h2 : items.length < 16777216) (h3 : compL (fun d e => asgT Γ tg d e) (fun e => evAll Γ ts e) (fun e => (evE Γ el e).bind fun r => frz r.2 r.1) own items (wipe1 e1 own) = some (out, env2)) (h4 : back e1 own env2 = some e3) : evE Γ (.comp el tg sr ts own) env = some (.ow out, e3) := by
  rw [evE, h1]
  show (if items.length < 16777216 then _ else none) = _
  rw [if_pos h2, h3]
  show (back e1 own env2).bind _ = _
  rw [h4]
  rfl
theorem x_reprL {es : Exs} {os : List Opd} {ds : List PyData} (h1 : evEs Γ es env = some (os, e1)) (h2 : ress e1 os = some ds) (h3 : reprOk (.list ds) = true) : evE Γ (.reprL es) env = some (.va (.str (PyData.list ds).shown), e1) := by
  rw [evE, h1]; show (ress e1 os).bind _ = _; rw [h2]; exact if_pos h3
theorem xs_nil : evEs Γ .nil env = some ([], env) := by rw [evEs]
theorem xs_cons {es : Exs} {os : List Opd} (h1 : evE Γ a env = some (o, e1)) (h2 : evEs Γ es e1 = some (os, e2)) : evEs Γ (.cons a es) env = some (o :: os, e2) := by
  rw [evEs, h1]; show (evEs Γ es e1).bind _ = _; rw [h2]; rfl
theorem xo_no : evO Γ .no env = some (none, env) := by rw [evO]
theorem xo_yes {i : Int} (h1 : evE Γ a env = some (.va (.int i), e1)) : evO Γ (.yes a) env = some (some i, e1) := by
  rw [evO, h1]; rfl
theorem xr_ex {d : PyData} {ds : List PyData} (h1 : evE Γ a env = some (o, e1)) (h2 : frz e1 o = some (d, e2)) (h3 : items d = some ds) : evS Γ (.ex a) env = some (ds, e2) := by
  rw [evS, h1]; show (frz e1 o).bind _ = _; rw [h2]; show (items d).bind _ = _; rw [h3]; rfl
theorem xr_rng {es : Exs} {os : List Opd} {ds : List PyData} {ns : List Int} (h1 : evEs Γ es env = some (os, e1)) (h2 : ress e1 os = some ds) (h3 : ints3 ds = some ns) : evS Γ (.rng es) env = some (ns.map .int, e1) := by
  rw [evS, h1]; show (ress e1 os).bind _ = _; rw [h2]; show (ints3 ds).bind _ = _; rw [h3]; rfl
theorem xr_enum {d : PyData} {ds : List PyData} (h1 : evE Γ a env = some (o, e1)) (h2 : frz e1 o = some (d, e2)) (h3 : items d = some ds) : evS Γ (.enum a) env = some (enumF 0 ds, e2) := by
  rw [evS, h1]; show (frz e1 o).bind _ = _; rw [h2]; show (items d).bind _ = _; rw [h3]; rfl
theorem xr_zip {ds : List PyData} (h1 : evE Γ a env = some (o1, e1)) (h2 : evE Γ b e1 = some (o2, e2)) (h3 : frzs e2 [o1, o2] = some ([x, y], e3)) (h4 : zipD x y = some ds) : evS Γ (.zip a b) env = some (ds, e3) := by
  rw [evS, h1]; show (evE Γ b e1).bind _ = _; rw [h2]; show (frzs e2 [o1, o2]).bind _ = _; rw [h3]; show (zipD x y).bind _ = _; rw [h4]; rfl
/-! statements -/
variable {s : Sm} {ss sa sb : Sms} {out : Out}
theorem y_nil : exSs Γ n .nil env = some (.nx env) := by rw [exSs]
theorem y_nx (h1 : exS Γ n s env = some (.nx e1)) (h2 : exSs Γ n ss e1 = some out) : exSs Γ n (.cons s ss) env = some out := by
  rw [exSs, h1]; exact h2
theorem y_rt {r : Rv} (h1 : exS Γ n s env = some (.rt r e1)) : exSs Γ n (.cons s ss) env = some (.rt r e1) := by
  rw [exSs, h1]; rfl
theorem y_exp (h1 : evE Γ a env = some (o, e1)) : exS Γ n (.exp a) env = some (.nx e1) := by
  rw [exS, h1]; rfl
theorem y_asgV {i : Nat} {d : PyData} {mv : Bool} (h1 : evE Γ a env = some (.va d, e1)) (h2 : (decide (i < e1.length)) = true) (h3 : e1.set i (.va d) = e2) : exS Γ n (.asg i a mv) env = some (.nx e2) := by
  subst h3
  rw [exS, h1]; exact if_pos (of_decide_eq_true h2)
theorem y_asgO {i : Nat} {ds : List PyData} {mv : Bool} (h1 : evE Γ a env = some (.ow ds, e1)) (h2 : (decide (i < e1.length)) = true) (h3 : e1.set i (.ow ds) = e2) : exS Γ n (.asg i a mv) env = some (.nx e2) := by
  subst h3
  rw [exS, h1]; exact if_pos (of_decide_eq_true h2)
theorem y_asgT {tg : Tg} {d : PyData} (h1 : evE Γ a env = some (o, e1)) (h2 : frz e1 o = some (d, e2)) (h3 : asgT Γ tg d e2 = some e3) : exS Γ n (.asgT tg a) env = some (.nx e3) := by
  rw [exS, h1]; show (frz e1 o).bind _ = _; rw [h2]; show (asgT Γ tg d e2).bind _ = _; rw [h3]; rfl
theorem y_par {is : List Nat} {es : Exs} {os os' : List Opd} (h1 : evEs Γ es env = some (os, e1)) (h2 : frzSl e1 os = some (os', e2)) (h3 : setAll is os' e2 = some e3) : exS Γ n (.par is es) env = some (.nx e3) := by
  rw [exS, h1]; show (frzSl e1 os).bind _ = _; rw [h2]; show (setAll is os' e2).bind _ = _; rw [h3]; rfl
theorem y_retV {d : PyData} (h1 : evE Γ a env = some (.va d, e1)) : exS Γ n (.ret a) env = some (.rt (.va d) e1) := by
  rw [exS, h1]; rfl
theorem y_retO {ds : List PyData} (h1 : evE Γ a env = some (.ow ds, e1)) : exS Γ n (.ret a) env = some (.rt (.ow ds) e1) := by
  rw [exS, h1]; rfl
theorem y_retS {i : Nat} {ds : List PyData} (h1 : evE Γ a env = some (.sl i, e1)) (h2 : e1[i]? = some (.ow ds)) (h3 : e1.set i .no = e2) : exS Γ n (.ret a) env = some (.rt (.ow ds) e2) := by
  subst h3
  rw [exS, h1]
  show (match e1[i]? with
    | some (.ow ds) => some (Out.rt (.ow ds) (e1.set i .no))
    | _ => none) = _
  rw [h2]
theorem y_if {t : Bool} (h1 : evE Γ c env = some (.va (.bool t), e1)) (h2 : (if t = true then exSs Γ n sa e1 else exSs Γ n sb e1) = some out) : exS Γ n (.ite c sa sb) env = some out := by
  rw [exS, h1]
  cases t with
  | true => exact h2
  | false => exact h2
theorem y_ifF (h1 : evE Γ c env = some (.va (.bool false), e1)) (h2 : exSs Γ n sb e1 = some out) : exS Γ n (.ite c sa sb) env = some out := y_if h1 h2
theorem y_ifT (h1 : evE Γ c env = some (.va (.bool true), e1)) (h2 : exSs Γ n sa e1 = some out) : exS Γ n (.ite c sa sb) env = some out := y_if h1 h2
theorem y_for {tg : Tg} {sr : Src} {b : Sms} {items : List PyData} (h1 : evS Γ sr env = some (items, e1)) (h2 : forL (fun d e => asgT Γ tg d e) (fun e => exSs Γ n b e) items e1 = some out) : exS Γ n (.for_ tg sr b) env = some out := by
  rw [exS, h1]; exact h2
theorem y_whl {b : Sms} (h1 : whlL (fun e => (evE Γ c e).bind fun p => (truth p.1).bind fun t => some (t, p.2)) (fun e => exSs Γ n b e) n env = some out) : exS Γ n (.whl c b) env = some out := by
  rw [exS]; exact h1
theorem y_run {io : Bool} {nl : Nat} {b : Sms} {args : List PyData} {z : Rv × List PyData} (h1 : exSs Γ n b (env0 io nl args) = some out) (h2 : outD io out = some z) : runD Γ n io nl b args = some z := by
  unfold runD
  rw [h1]
  exact h2
end
end Pd

/-! typed reading of the small language: encodings, options, loops -/
namespace Pd
open PySem PySem.Spec PyProof.Rows L2
abbrev nF : Nat := 1000
abbrev Run := List PyData → Option (Rv × List PyData)
/-- f is what the def does -/
def Does (f : Run) (Γ : Tab) (io : Bool) (nl : Nat) (ir : Sms) : Prop := ∀ ds z, f ds = some z → runD Γ nF io nl ir ds = some z

/-! ### encodings -/
class Enc (α : Type) where
  e : α → PyData
  inj : ∀ a b, e a = e b → a = b
/-- the data of a typed value -/
abbrev enc {α : Type} [Enc α] (a : α) : PyData := Enc.e a
instance : Enc Int := ⟨.int, fun _ _ h => by injection h⟩
instance : Enc Bool := ⟨.bool, fun _ _ h => by injection h⟩
instance : Enc Str := ⟨.str, fun _ _ h => by injection h⟩
instance : Enc Unit := ⟨fun _ => .none, fun _ _ _ => rfl⟩
instance : Enc PyData := ⟨id, fun _ _ h => h⟩
/-- a check that was passed -/
inductive Yes where
  | yes
instance : Enc Yes := ⟨fun _ => .bool true, fun a b _ => by cases a; cases b; rfl⟩
theorem map_inj {α : Type} [Enc α] : ∀ xs ys : List α, xs.map enc = ys.map enc → xs = ys
  | [], [], _ => rfl
  | [], _ :: _, h => by simp at h
  | _ :: _, [], h => by simp at h
  | x :: xs, y :: ys, h => by
    rw [List.map_cons, List.map_cons, List.cons.injEq] at h
    rw [Enc.inj x y h.1, map_inj xs ys h.2]
instance {α : Type} [Enc α] : Enc (List α) := ⟨fun xs => .list (xs.map enc), fun _ _ h => by injection h with h; exact map_inj _ _ h⟩
/-- a tuple of things of a kind -/
structure Tp (α : Type) where
  l : List α
instance {α : Type} [Enc α] : Enc (Tp α) := ⟨fun t => .tuple (t.l.map enc), fun a b h => by
  injection h with h
  obtain ⟨x⟩ := a
  obtain ⟨y⟩ := b
  have e : x = y := map_inj _ _ h
  rw [e]⟩
/-- a list or a tuple -/
structure Sq (α : Type) where
  tp : Bool
  l : List α
def Sq.enc {α : Type} [Enc α] (t : Sq α) : PyData := match t.tp with
  | false => .list (t.l.map Enc.e)
  | true => .tuple (t.l.map Enc.e)
instance {α : Type} [Enc α] : Enc (Sq α) := ⟨Sq.enc, fun a b h => by
  obtain ⟨s, xs⟩ := a
  obtain ⟨t, ys⟩ := b
  cases s <;> cases t <;> unfold Sq.enc at h <;> dsimp only at h
  · injection h with h
    rw [map_inj _ _ h]
  · cases h
  · cases h
  · injection h with h
    rw [map_inj _ _ h]⟩
instance {α β : Type} [Enc α] [Enc β] : Enc (α × β) := ⟨fun p => .tuple [enc p.1, enc p.2], fun a b h => by
  injection h with h
  injection h with h1 h
  injection h with h2 h
  exact Prod.ext (Enc.inj _ _ h1) (Enc.inj _ _ h2)⟩
/-- three things -/
structure T3 (α β γ : Type) where
  a : α
  b : β
  c : γ
instance {α β γ : Type} [Enc α] [Enc β] [Enc γ] : Enc (T3 α β γ) := ⟨fun p => .tuple [enc p.a, enc p.b, enc p.c], fun x y h => by
  injection h with h
  injection h with h1 h
  injection h with h2 h
  injection h with h3 h
  obtain ⟨x1, x2, x3⟩ := x
  obtain ⟨y1, y2, y3⟩ := y
  have e1 : x1 = y1 := Enc.inj _ _ h1
  have e2 : x2 = y2 := Enc.inj _ _ h2
  have e3 : x3 = y3 := Enc.inj _ _ h3
  rw [e1, e2, e3]⟩
/-- the pot of digits -/
structure Pot where
  a : Int
  b : Int
def potL (p : Pot) : List PyData := [.int p.a, .int p.b]
instance : Enc Pot := ⟨fun p => .list (potL p), fun x y h => by
  injection h with h
  injection h with h1 h
  injection h with h2 h
  injection h1 with h1
  injection h2 with h2
  cases x; cases y
  dsimp only at h1 h2
  rw [h1, h2]⟩
abbrev encL {α : Type} [Enc α] (xs : List α) : List PyData := xs.map enc
/-- what a def is handed -/
class Encs (τ : Type) where
  es : τ → List PyData
  inj : ∀ a b, es a = es b → a = b
  n : Nat
  len : ∀ t, (es t).length = n
abbrev encs {τ : Type} [Encs τ] (t : τ) : List PyData := Encs.es t
instance : Encs Unit := ⟨fun _ => [], fun _ _ _ => rfl, 0, fun _ => rfl⟩
instance {α τ : Type} [Enc α] [Encs τ] : Encs (α × τ) := ⟨fun p => enc p.1 :: encs p.2, fun a b h => by
  injection h with h1 h2
  exact Prod.ext (Enc.inj _ _ h1) (Encs.inj _ _ h2), Encs.n τ + 1, fun t => by rw [List.length_cons, Encs.len]⟩

/-! ### runs of typed functions -/
open Classical in
noncomputable def onA {τ ρ : Type} [Encs τ] (f : τ → Option ρ) (ds : List PyData) : Option ρ := if h : ∃ t : τ, encs t = ds then f h.choose else none
theorem onA_at {τ ρ : Type} [Encs τ] (f : τ → Option ρ) (t : τ) : onA f (encs t) = f t := by
  unfold onA
  have h : ∃ u : τ, encs u = encs t := ⟨t, rfl⟩
  rw [dif_pos h, Encs.inj _ _ h.choose_spec]
theorem onA_of {τ ρ : Type} [Encs τ] {f : τ → Option ρ} {ds : List PyData} {r : ρ} (h : onA f ds = some r) : ∃ t, encs t = ds ∧ f t = some r := by
  unfold onA at h
  split at h
  · rename_i e
    exact ⟨_, e.choose_spec, h⟩
  · cases h
section
variable {τ ρ : Type} [Encs τ]
noncomputable def RV [Enc ρ] (f : τ → Option ρ) : Run := fun ds => (onA f ds).map fun r => (.va (enc r), [])
noncomputable def RO [Enc ρ] (f : τ → Option (List ρ)) : Run := fun ds => (onA f ds).map fun r => (.ow (encL r), [])
noncomputable def RP (f : τ → Option Pot) : Run := fun ds => (onA f ds).map fun r => (.ow (potL r), [])
noncomputable def IV [Enc ρ] (f : Pot × τ → Option (ρ × Pot)) : Run := fun ds => (onA f ds).map fun r => (.va (enc r.1), potL r.2)
noncomputable def IO_ [Enc ρ] (f : Pot × τ → Option (List ρ × Pot)) : Run := fun ds => (onA f ds).map fun r => (.ow (encL r.1), potL r.2)
theorem RV_at [Enc ρ] {f : τ → Option ρ} {t : τ} {r : ρ} (h : f t = some r) : RV f (encs t) = some (.va (enc r), []) := by
  unfold RV
  rw [onA_at, h]
  rfl
theorem RO_at [Enc ρ] {f : τ → Option (List ρ)} {t : τ} {r : List ρ} (h : f t = some r) : RO f (encs t) = some (.ow (encL r), []) := by
  unfold RO
  rw [onA_at, h]
  rfl
theorem RP_at {f : τ → Option Pot} {t : τ} {r : Pot} (h : f t = some r) : RP f (encs t) = some (.ow (potL r), []) := by
  unfold RP
  rw [onA_at, h]
  rfl
theorem IV_at [Enc ρ] {f : Pot × τ → Option (ρ × Pot)} {p : Pot} {t : τ} {r : ρ × Pot} (h : f (p, t) = some r) : IV f (.list (potL p) :: encs t) = some (.va (enc r.1), potL r.2) := by
  have e : PyData.list (potL p) :: encs t = encs (p, t) := rfl
  unfold IV
  rw [e, onA_at, h]
  rfl
theorem IO_at [Enc ρ] {f : Pot × τ → Option (List ρ × Pot)} {p : Pot} {t : τ} {r : List ρ × Pot} (h : f (p, t) = some r) : IO_ f (.list (potL p) :: encs t) = some (.ow (encL r.1), potL r.2) := by
  have e : PyData.list (potL p) :: encs t = encs (p, t) := rfl
  unfold IO_
  rw [e, onA_at, h]
  rfl
theorem RV_of [Enc ρ] {f : τ → Option ρ} {Γ : Tab} {nl : Nat} {ir : Sms} (h : ∀ t r, f t = some r → runD Γ nF false nl ir (encs t) = some (.va (enc r), [])) : Does (RV f) Γ false nl ir := by
  intro ds z e
  unfold RV at e
  rw [Option.map_eq_some_iff] at e
  obtain ⟨r, e1, e2⟩ := e
  obtain ⟨t, e3, e4⟩ := onA_of e1
  subst e3
  subst e2
  exact h t r e4
theorem RO_of [Enc ρ] {f : τ → Option (List ρ)} {Γ : Tab} {nl : Nat} {ir : Sms} (h : ∀ t r, f t = some r → runD Γ nF false nl ir (encs t) = some (.ow (encL r), [])) : Does (RO f) Γ false nl ir := by
  intro ds z e
  unfold RO at e
  rw [Option.map_eq_some_iff] at e
  obtain ⟨r, e1, e2⟩ := e
  obtain ⟨t, e3, e4⟩ := onA_of e1
  subst e3
  subst e2
  exact h t r e4
theorem RP_of {f : τ → Option Pot} {Γ : Tab} {nl : Nat} {ir : Sms} (h : ∀ t r, f t = some r → runD Γ nF false nl ir (encs t) = some (.ow (potL r), [])) : Does (RP f) Γ false nl ir := by
  intro ds z e
  unfold RP at e
  rw [Option.map_eq_some_iff] at e
  obtain ⟨r, e1, e2⟩ := e
  obtain ⟨t, e3, e4⟩ := onA_of e1
  subst e3
  subst e2
  exact h t r e4
theorem IV_of [Enc ρ] {f : Pot × τ → Option (ρ × Pot)} {Γ : Tab} {nl : Nat} {ir : Sms} (h : ∀ t r, f t = some r → runD Γ nF true nl ir (encs t) = some (.va (enc r.1), potL r.2)) : Does (IV f) Γ true nl ir := by
  intro ds z e
  unfold IV at e
  rw [Option.map_eq_some_iff] at e
  obtain ⟨r, e1, e2⟩ := e
  obtain ⟨t, e3, e4⟩ := onA_of e1
  subst e3
  subst e2
  exact h t r e4
theorem IO_of [Enc ρ] {f : Pot × τ → Option (List ρ × Pot)} {Γ : Tab} {nl : Nat} {ir : Sms} (h : ∀ t r, f t = some r → runD Γ nF true nl ir (encs t) = some (.ow (encL r.1), potL r.2)) : Does (IO_ f) Γ true nl ir := by
  intro ds z e
  unfold IO_ at e
  rw [Option.map_eq_some_iff] at e
  obtain ⟨r, e1, e2⟩ := e
  obtain ⟨t, e3, e4⟩ := onA_of e1
  subst e3
  subst e2
  exact h t r e4
theorem onA_len {σ : Type} {f : τ → Option σ} {ds : List PyData} {r : σ} (h : onA f ds = some r) : ds.length = Encs.n τ := by
  obtain ⟨t, e, _⟩ := onA_of h
  rw [← e, Encs.len]
theorem RV_len [Enc ρ] {f : τ → Option ρ} : ∀ ds z, RV f ds = some z → ds.length = Encs.n τ := fun ds z h => by
  unfold RV at h
  rw [Option.map_eq_some_iff] at h
  obtain ⟨r, e, _⟩ := h
  exact onA_len e
theorem RO_len [Enc ρ] {f : τ → Option (List ρ)} : ∀ ds z, RO f ds = some z → ds.length = Encs.n τ := fun ds z h => by
  unfold RO at h
  rw [Option.map_eq_some_iff] at h
  obtain ⟨r, e, _⟩ := h
  exact onA_len e
theorem RP_len {f : τ → Option Pot} : ∀ ds z, RP f ds = some z → ds.length = Encs.n τ := fun ds z h => by
  unfold RP at h
  rw [Option.map_eq_some_iff] at h
  obtain ⟨r, e, _⟩ := h
  exact onA_len e
theorem IV_len [Enc ρ] {f : Pot × τ → Option (ρ × Pot)} : ∀ ds z, IV f ds = some z → ds.length = Encs.n (Pot × τ) := fun ds z h => by
  unfold IV at h
  rw [Option.map_eq_some_iff] at h
  obtain ⟨r, e, _⟩ := h
  exact onA_len e
theorem IO_len [Enc ρ] {f : Pot × τ → Option (List ρ × Pot)} : ∀ ds z, IO_ f ds = some z → ds.length = Encs.n (Pot × τ) := fun ds z h => by
  unfold IO_ at h
  rw [Option.map_eq_some_iff] at h
  obtain ⟨r, e, _⟩ := h
  exact onA_len e
end

/-! ### options -/
def bd {α β : Type} (o : Option α) (k : α → Option β) : Option β := match o with
  | some a => k a
  | none => none
open Classical in
noncomputable def gd {β : Type} (c : Prop) (k : Option β) : Option β := if c then k else none
def lt {α β : Type} (a : α) (k : α → Option β) : Option β := k a
theorem bd_some {α β : Type} {o : Option α} {k : α → Option β} {r : β} (h : bd o k = some r) : ∃ a, o = some a ∧ k a = some r := by
  cases o with
  | none => cases h
  | some a => exact ⟨a, rfl, h⟩
theorem gd_some {β : Type} {c : Prop} {k : Option β} {r : β} (h : gd c k = some r) : c ∧ k = some r := by
  unfold gd at h
  split at h
  · rename_i e
    exact ⟨e, h⟩
  · cases h
theorem lt_some {α β : Type} {a : α} {k : α → Option β} {r : β} (h : lt a k = some r) : ∃ v, v = a ∧ k v = some r := ⟨a, rfl, h⟩
theorem some_inj {α : Type} {a b : α} (h : some a = some b) : a = b := by injection h
theorem bd_eq {α β : Type} {a : α} {k : α → Option β} : bd (some a) k = k a := rfl
theorem gd_eq {β : Type} {c : Prop} {k : Option β} (h : c) : gd c k = k := by
  unfold gd
  rw [if_pos h]
/-! what an option holds -/
def Ok {α : Type} (o : Option α) (Q : α → Prop) : Prop := ∃ a, o = some a ∧ Q a
theorem Ok.bd {α β : Type} {o : Option α} {k : α → Option β} {P : α → Prop} {Q : β → Prop} (h : Ok o P) (hk : ∀ a, P a → Ok (k a) Q) : Ok (bd o k) Q := by
  obtain ⟨a, e, p⟩ := h
  subst e
  exact hk a p
theorem Ok.gd {β : Type} {c : Prop} {k : Option β} {Q : β → Prop} (h : c) (hk : Ok k Q) : Ok (gd c k) Q := by
  rw [gd_eq h]
  exact hk
theorem Ok.ret {α : Type} {a : α} {Q : α → Prop} (h : Q a) : Ok (some a) Q := ⟨a, rfl, h⟩
theorem Ok.imp {α : Type} {o : Option α} {P Q : α → Prop} (h : Ok o P) (hi : ∀ a, P a → Q a) : Ok o Q := by
  obtain ⟨a, e, p⟩ := h
  exact ⟨a, e, hi a p⟩
theorem Ok.eq {α : Type} {o : Option α} {v : α} (h : Ok o fun a => a = v) : o = some v := by
  obtain ⟨a, e, p⟩ := h
  rw [e, p]
theorem Ok.of {α : Type} {o : Option α} {v : α} (h : o = some v) : Ok o fun a => a = v := ⟨v, h, rfl⟩

/-! ### loops -/
section
variable {α β S ρ : Type}
def forM (f : α → S → Option S) : List α → S → Option S
  | [], s => some s
  | a :: r, s => bd (f a s) (forM f r)
def forR (f : α → S → Option (S ⊕ ρ)) : List α → S → Option (S ⊕ ρ)
  | [], s => some (.inl s)
  | a :: r, s => bd (f a s) fun o => match o with
    | .inl s' => forR f r s'
    | .inr z => some (.inr z)
def whM (c : S → Option Bool) (f : S → Option S) : Nat → S → Option S
  | 0, _ => none
  | n + 1, s => bd (c s) fun t => match t with
    | true => bd (f s) (whM c f n)
    | false => some s
def mpM (f : α → Option β) : List α → Option (List β)
  | [] => some []
  | a :: r => bd (f a) fun b => bd (mpM f r) fun bs => some (b :: bs)
def fmM (c : α → Option Bool) (f : α → Option β) : List α → Option (List β)
  | [] => some []
  | a :: r => bd (c a) fun t => match t with
    | true => bd (f a) fun b => bd (fmM c f r) fun bs => some (b :: bs)
    | false => fmM c f r
def mpS (f : α → S → Option (β × S)) : List α → S → Option (List β × S)
  | [], s => some ([], s)
  | a :: r, s => bd (f a s) fun b => bd (mpS f r b.2) fun bs => some (b.1 :: bs.1, bs.2)
/-- the runs of loops -/
theorem forM_sim {X : Type} [Enc α] {tg : PyData → EnvD → Option EnvD} {b : EnvD → Option Out} {f : α → S → Option S} {items : List α} {s s' : S} (h : forM f items s = some s') (E : X → S → EnvD)
    (hb : ∀ a x s s', f a s = some s' → ∃ x', (tg (enc a) (E x s)).bind b = some (.nx (E x' s'))) (x : X) : ∃ x', forL tg b (encL items) (E x s) = some (.nx (E x' s')) := by
  induction items generalizing s x with
  | nil =>
    cases h
    exact ⟨x, rfl⟩
  | cons a r ih =>
    obtain ⟨s1, h1, h2⟩ := bd_some h
    obtain ⟨x1, q⟩ := hb a x s s1 h1
    obtain ⟨x2, q2⟩ := ih h2 x1
    refine ⟨x2, ?_⟩
    rw [Option.bind_eq_some_iff] at q
    obtain ⟨e1, z1, z2⟩ := q
    show forL tg b (enc a :: encL r) (E x s) = _
    unfold forL
    rw [z1]
    show (b e1).bind _ = _
    rw [z2]
    exact q2
def outR {X : Type} (E : X → S → EnvD) (F : ρ → Rv) (T : X → ρ → EnvD) : X → S ⊕ ρ → Out
  | x, .inl s => .nx (E x s)
  | x, .inr r => .rt (F r) (T x r)
theorem forR_sim {X : Type} [Enc α] {tg : PyData → EnvD → Option EnvD} {b : EnvD → Option Out} {f : α → S → Option (S ⊕ ρ)} {items : List α} {s : S} {o : S ⊕ ρ} (h : forR f items s = some o) (E : X → S → EnvD) (F : ρ → Rv) (T : X → ρ → EnvD)
    (hb : ∀ a x s o, f a s = some o → ∃ x', (tg (enc a) (E x s)).bind b = some (outR E F T x' o)) (x : X) : ∃ x', forL tg b (encL items) (E x s) = some (outR E F T x' o) := by
  induction items generalizing s x with
  | nil =>
    cases h
    exact ⟨x, rfl⟩
  | cons a r ih =>
    obtain ⟨s1, h1, h2⟩ := bd_some h
    obtain ⟨x1, q⟩ := hb a x s s1 h1
    rw [Option.bind_eq_some_iff] at q
    obtain ⟨e1, z1, z2⟩ := q
    cases s1 with
    | inl s1 =>
      obtain ⟨x2, q2⟩ := ih h2 x1
      refine ⟨x2, ?_⟩
      show forL tg b (enc a :: encL r) (E x s) = _
      unfold forL
      rw [z1]
      show (b e1).bind _ = _
      rw [z2]
      exact q2
    | inr w =>
      cases h2
      refine ⟨x1, ?_⟩
      show forL tg b (enc a :: encL r) (E x s) = _
      unfold forL
      rw [z1]
      show (b e1).bind _ = _
      rw [z2]
      rfl
theorem whM_sim {X : Type} {c' : EnvD → Option (Bool × EnvD)} {b : EnvD → Option Out} {c : S → Option Bool} {f : S → Option S} {n : Nat} {s s' : S} (h : whM c f n s = some s') (E : X → S → EnvD)
    (hc : ∀ x s t, c s = some t → c' (E x s) = some (t, E x s)) (hb : ∀ x s s', f s = some s' → ∃ x', b (E x s) = some (.nx (E x' s'))) (x : X) : ∃ x', whlL c' b n (E x s) = some (.nx (E x' s')) := by
  induction n generalizing s x with
  | zero => cases h
  | succ n ih =>
    obtain ⟨t, h1, h2⟩ := bd_some h
    have q := hc x s t h1
    cases t with
    | false =>
      cases h2
      refine ⟨x, ?_⟩
      unfold whlL
      rw [q]
      rfl
    | true =>
      obtain ⟨s1, h3, h4⟩ := bd_some h2
      obtain ⟨x1, q1⟩ := hb x s s1 h3
      obtain ⟨x2, q2⟩ := ih h4 x1
      refine ⟨x2, ?_⟩
      unfold whlL
      rw [q]
      show (b (E x s)).bind _ = _
      rw [q1]
      exact q2
theorem mpM_sim [Enc α] [Enc β] {tg : PyData → EnvD → Option EnvD} {el : EnvD → Option (PyData × EnvD)} {ts : EnvD → Option (Bool × EnvD)} {own : List Nat} {W : EnvD} {f : α → Option β} {items : List α} {out : List β} (h : mpM f items = some out)
    (hb : ∀ a b, f a = some b → ∃ e1 e3, tg (enc a) W = some e1 ∧ ts e1 = some (true, e1) ∧ el e1 = some (enc b, e3) ∧ wipe1 e3 own = W) : compL tg ts el own (encL items) W = some (encL out, W) := by
  induction items generalizing out with
  | nil =>
    cases h
    rfl
  | cons a r ih =>
    obtain ⟨b, h1, h2⟩ := bd_some h
    obtain ⟨bs, h3, h4⟩ := bd_some h2
    cases h4
    obtain ⟨e1, e3, z1, z2, z3, z4⟩ := hb a b h1
    show compL tg ts el own (enc a :: encL r) W = _
    unfold compL
    rw [z1]
    show (ts e1).bind _ = _
    rw [z2]
    show (el e1).bind _ = _
    rw [z3]
    show (compL tg ts el own (encL r) (wipe1 e3 own)).bind _ = _
    rw [z4, ih h3]
    rfl
theorem mpM_simP [Enc α] [Enc β] {tg : PyData → EnvD → Option EnvD} {el : EnvD → Option (PyData × EnvD)} {ts : EnvD → Option (Bool × EnvD)} {own : List Nat} {W : EnvD} {f : α → Option β} {items : List α} {out : List β} (h : mpM f items = some out)
    (hb : ∀ a b, f a = some b → ∃ e1 e3, tg (enc a) W = some e1 ∧ ts e1 = some (true, e1) ∧ el e1 = some (enc b, e3) ∧ wipe1 e3 own = W) : compLP W tg ts el own (encL items) = some (encL out) := by
  induction items generalizing out with
  | nil =>
    cases h
    rfl
  | cons a r ih =>
    obtain ⟨b, h1, h2⟩ := bd_some h
    obtain ⟨bs, h3, h4⟩ := bd_some h2
    cases h4
    obtain ⟨e1, e3, z1, z2, z3, z4⟩ := hb a b h1
    show compLP W tg ts el own (enc a :: encL r) = _
    unfold compLP
    rw [z1]
    show (ts e1).bind _ = _
    rw [z2]
    show (el e1).bind _ = _
    rw [z3]
    show (if sameEnv (wipe1 e3 own) W = true then (compLP W tg ts el own (encL r)).bind _ else none) = _
    rw [z4, if_pos (sameEnv_rfl W), ih h3]
    rfl
theorem fmM_sim [Enc α] [Enc β] {tg : PyData → EnvD → Option EnvD} {el : EnvD → Option (PyData × EnvD)} {ts : EnvD → Option (Bool × EnvD)} {own : List Nat} {W : EnvD} {c : α → Option Bool} {f : α → Option β} {items : List α} {out : List β} (h : fmM c f items = some out)
    (hc : ∀ a t, c a = some t → ∃ e1, tg (enc a) W = some e1 ∧ ts e1 = some (t, e1) ∧ wipe1 e1 own = W)
    (hb : ∀ a b, f a = some b → ∀ e1, tg (enc a) W = some e1 → ∃ e3, el e1 = some (enc b, e3) ∧ wipe1 e3 own = W) : compL tg ts el own (encL items) W = some (encL out, W) := by
  induction items generalizing out with
  | nil =>
    cases h
    rfl
  | cons a r ih =>
    obtain ⟨t, h1, h2⟩ := bd_some h
    obtain ⟨e1, z1, z2, z5⟩ := hc a t h1
    show compL tg ts el own (enc a :: encL r) W = _
    unfold compL
    rw [z1]
    show (ts e1).bind _ = _
    rw [z2]
    cases t with
    | false =>
      show compL tg ts el own (encL r) (wipe1 e1 own) = _
      rw [z5]
      exact ih h2
    | true =>
      obtain ⟨b, h3, h4⟩ := bd_some h2
      obtain ⟨bs, h5, h6⟩ := bd_some h4
      cases h6
      obtain ⟨e3, z3, z4⟩ := hb a b h3 e1 z1
      show (el e1).bind _ = _
      rw [z3]
      show (compL tg ts el own (encL r) (wipe1 e3 own)).bind _ = _
      rw [z4, ih h5]
      rfl
theorem mpS_sim [Enc α] [Enc β] {tg : PyData → EnvD → Option EnvD} {el : EnvD → Option (PyData × EnvD)} {ts : EnvD → Option (Bool × EnvD)} {own : List Nat} {f : α → S → Option (β × S)} {items : List α} {s : S} {out : List β × S} (h : mpS f items s = some out) (E : S → EnvD)
    (hb : ∀ a s b, f a s = some b → ∃ e1 e3, tg (enc a) (E s) = some e1 ∧ ts e1 = some (true, e1) ∧ el e1 = some (enc b.1, e3) ∧ wipe1 e3 own = E b.2) : compL tg ts el own (encL items) (E s) = some (encL out.1, E out.2) := by
  induction items generalizing s out with
  | nil =>
    cases h
    rfl
  | cons a r ih =>
    obtain ⟨b, h1, h2⟩ := bd_some h
    obtain ⟨bs, h3, h4⟩ := bd_some h2
    cases h4
    obtain ⟨e1, e3, z1, z2, z3, z4⟩ := hb a s b h1
    show compL tg ts el own (enc a :: encL r) (E s) = _
    unfold compL
    rw [z1]
    show (ts e1).bind _ = _
    rw [z2]
    show (el e1).bind _ = _
    rw [z3]
    show (compL tg ts el own (encL r) (wipe1 e3 own)).bind _ = _
    rw [z4, ih h3]
    rfl
end
end Pd

/-! what the operations do on what is encoded -/
namespace Pd
open PySem PySem.Spec PyProof.Rows L2
open Classical in
noncomputable def dec (p : Prop) : Bool := if p then true else false
theorem dec_iff {p : Prop} : dec p = true ↔ p := by
  unfold dec
  split
  · rename_i h
    exact ⟨fun _ => h, fun _ => rfl⟩
  · rename_i h
    exact ⟨fun z => (nomatch z), fun z => absurd z h⟩
theorem dec_T {p : Prop} (h : p) : dec p = true := dec_iff.mpr h
theorem dec_F {p : Prop} (h : ¬ p) : dec p = false := by
  unfold dec
  exact if_neg h
theorem bool_ext {a b : Bool} (h : a = true ↔ b = true) : a = b := by
  cases a <;> cases b <;> simp at h ⊢
/-- data that are compared -/
class EncE (α : Type) [Enc α] where
  dp : Nat
  lay : ∀ a : α, (enc a).canLay0 = true
  dep : ∀ a : α, (enc a).depth ≤ dp
  eqv : ∀ a b : α, PyData.eqv (enc a) (enc b) = true ↔ a = b
instance : EncE Int := ⟨0, fun _ => rfl, fun _ => by show (PyData.int _).depth ≤ 0; rw [PyData.depth]; omega, fun a b => by
  show PyData.eqv (.int a) (.int b) = true ↔ a = b
  rw [PyData.eqv]
  exact beq_iff_eq⟩
instance : EncE Bool := ⟨0, fun _ => rfl, fun _ => by show (PyData.bool _).depth ≤ 0; rw [PyData.depth]; omega, fun a b => by
  show PyData.eqv (.bool a) (.bool b) = true ↔ a = b
  rw [PyData.eqv]
  exact beq_iff_eq⟩
section
variable {α β γ : Type} [Enc α] [EncE α] [Enc β] [EncE β] [Enc γ] [EncE γ]
theorem layL : ∀ xs : List α, PyData.canLayAll0 (xs.map enc) = true
  | [] => rfl
  | x :: xs => by
    show ((enc x).canLay0 && PyData.canLayAll0 (xs.map enc)) = true
    rw [layL xs, EncE.lay x]
    rfl
theorem depL : ∀ xs : List α, PyData.depthAll (xs.map enc) ≤ EncE.dp α
  | [] => Nat.zero_le _
  | x :: xs => by
    have h1 := depL xs
    have h2 := EncE.dep x
    show max (enc x).depth (PyData.depthAll (xs.map enc)) ≤ _
    omega
theorem eqvL : ∀ xs ys : List α, PyData.eqvAll (xs.map enc) (ys.map enc) = true ↔ xs = ys
  | [], [] => by simp [PyData.eqvAll]
  | [], y :: ys => by
    rw [List.map_nil, List.map_cons, PyData.eqvAll]
    simp
  | x :: xs, [] => by
    rw [List.map_nil, List.map_cons, PyData.eqvAll]
    simp
  | x :: xs, y :: ys => by
    rw [List.map_cons, List.map_cons, PyData.eqvAll, Bool.and_eq_true, EncE.eqv, eqvL xs ys, List.cons.injEq]
instance : EncE (List α) := ⟨EncE.dp α + 1, fun xs => by show (PyData.list (xs.map enc)).canLay0 = true; rw [PyData.canLay0]; exact layL xs, fun xs => by
  show (PyData.list (xs.map enc)).depth ≤ _
  rw [PyData.depth]
  have := depL xs
  omega, fun a b => by
  show PyData.eqv (.list _) (.list _) = true ↔ _
  rw [PyData.eqv]
  exact eqvL a b⟩
instance : EncE (Tp α) := ⟨EncE.dp α + 1, fun xs => by show (PyData.tuple (xs.l.map enc)).canLay0 = true; rw [PyData.canLay0]; exact layL xs.l, fun xs => by
  show (PyData.tuple (xs.l.map enc)).depth ≤ _
  rw [PyData.depth]
  have := depL xs.l
  omega, fun a b => by
  show PyData.eqv (.tuple _) (.tuple _) = true ↔ _
  rw [PyData.eqv, eqvL a.l b.l]
  obtain ⟨x⟩ := a
  obtain ⟨y⟩ := b
  simp⟩
instance : EncE (α × β) := ⟨max (EncE.dp α) (EncE.dp β) + 1, fun p => by
  show (PyData.tuple [enc p.1, enc p.2]).canLay0 = true
  rw [PyData.canLay0, PyData.canLayAll0, PyData.canLayAll0, PyData.canLayAll0, EncE.lay, EncE.lay]
  rfl, fun p => by
  show (PyData.tuple [enc p.1, enc p.2]).depth ≤ _
  rw [PyData.depth, PyData.depthAll, PyData.depthAll, PyData.depthAll]
  have := EncE.dep p.1
  have := EncE.dep p.2
  omega, fun a b => by
  show PyData.eqv (.tuple [enc a.1, enc a.2]) (.tuple [enc b.1, enc b.2]) = true ↔ _
  rw [PyData.eqv, PyData.eqvAll, PyData.eqvAll, PyData.eqvAll, Bool.and_true, Bool.and_eq_true, EncE.eqv, EncE.eqv]
  exact ⟨fun h => Prod.ext h.1 h.2, fun h => by rw [h]; exact ⟨rfl, rfl⟩⟩⟩
instance : EncE (T3 α β γ) := ⟨max (max (EncE.dp α) (EncE.dp β)) (EncE.dp γ) + 1, fun p => by
  show (PyData.tuple [enc p.a, enc p.b, enc p.c]).canLay0 = true
  rw [PyData.canLay0, PyData.canLayAll0, PyData.canLayAll0, PyData.canLayAll0, PyData.canLayAll0, EncE.lay, EncE.lay, EncE.lay]
  rfl, fun p => by
  show (PyData.tuple [enc p.a, enc p.b, enc p.c]).depth ≤ _
  rw [PyData.depth, PyData.depthAll, PyData.depthAll, PyData.depthAll, PyData.depthAll]
  have := EncE.dep p.a
  have := EncE.dep p.b
  have := EncE.dep p.c
  omega, fun a b => by
  show PyData.eqv (.tuple [enc a.a, enc a.b, enc a.c]) (.tuple [enc b.a, enc b.b, enc b.c]) = true ↔ _
  rw [PyData.eqv, PyData.eqvAll, PyData.eqvAll, PyData.eqvAll, PyData.eqvAll, Bool.and_true, Bool.and_eq_true, Bool.and_eq_true, EncE.eqv, EncE.eqv, EncE.eqv]
  obtain ⟨a1, a2, a3⟩ := a
  obtain ⟨b1, b2, b3⟩ := b
  simp⟩
theorem shp_of {d : PyData} {n : Nat} (h1 : d.canLay0 = true) (h2 : d.depth ≤ n) (h3 : n ≤ 64) : SeqAt.shaped d = true := by
  unfold SeqAt.shaped
  rw [h1, decide_eq_true (by omega)]
  rfl
theorem eqv_dec (x y : α) : PyData.eqv (enc x) (enc y) = dec (x = y) := bool_ext (by rw [EncE.eqv, dec_iff])
theorem c_eqL (xs ys : List α) (h : EncE.dp α ≤ 60 := by decide) : cmpD .eq (.list (encL xs)) (.list (encL ys)) = some (dec (xs = ys)) := by
  have h' : EncE.dp (List α) ≤ 64 := by show EncE.dp α + 1 ≤ 64; omega
  show (if (SeqAt.shaped (enc xs) && SeqAt.shaped (enc ys)) = true then some (PyData.eqv (enc xs) (enc ys)) else none) = _
  rw [shp_of (EncE.lay xs) (EncE.dep xs) h', shp_of (EncE.lay ys) (EncE.dep ys) h', eqv_dec]
  rfl
theorem oft_enc {xs : List α} {y : α} (h : EncE.dp α ≤ 60 := by decide) : oftD (encL xs) (enc y) = some (.int ((xs.countP fun z => dec (z = y) : Nat) : Int)) := by
  have h' : EncE.dp (List α) ≤ 64 := by show EncE.dp α + 1 ≤ 64; omega
  show (if (SeqAt.shaped (enc xs) && SeqAt.shaped (enc y)) = true then some (PyData.int (((encL xs).countP fun z => PyData.eqv z (enc y) : Nat) : Int)) else none) = _
  rw [shp_of (EncE.lay xs) (EncE.dep xs) h', shp_of (EncE.lay y) (EncE.dep y) (by omega)]
  have e : (encL xs).countP (fun z => PyData.eqv z (enc y)) = xs.countP fun z => dec (z = y) := by
    show (xs.map enc).countP _ = _
    rw [List.countP_map]
    refine List.countP_congr fun z _ => ?_
    show PyData.eqv (enc z) (enc y) = true ↔ _
    rw [eqv_dec]
  rw [e]
  rfl
theorem m_countT {xs : List (Tp α)} {v : Tp α} (h : EncE.dp (Tp α) ≤ 60 := by decide) : mthD .count (.list (encL xs)) (.tuple (encL v.l)) = some (.int ((xs.countP fun z => dec (z = v) : Nat) : Int)) := by
  have z := oft_enc (xs := xs) (y := v) h
  show cntL (encL xs) (.tuple (encL v.l)) = _
  unfold cntL
  split
  · rename_i e
    cases e
  · exact z
theorem m_idxT {xs : List (Tp α)} {v : Tp α} {j : Nat} (hj : (xs.findIdx? fun z => dec (z = v)) = some j) (h : EncE.dp (Tp α) ≤ 60 := by decide) : mthD .index (.list (encL xs)) (.tuple (encL v.l)) = some (.int (j : Int)) := by
  have h' : EncE.dp (List (Tp α)) ≤ 64 := by show EncE.dp (Tp α) + 1 ≤ 64; omega
  show (if (SeqAt.shaped (enc xs) && SeqAt.shaped (enc v)) = true then ((encL xs).findIdx? fun z => PyData.eqv z (enc v)).map fun (j : Nat) => PyData.int j else none) = _
  rw [shp_of (EncE.lay xs) (EncE.dep xs) h', shp_of (EncE.lay v) (EncE.dep v) (by omega)]
  have e : ((encL xs).findIdx? fun z => PyData.eqv z (enc v)) = xs.findIdx? fun z => dec (z = v) := by
    show (xs.map enc).findIdx? _ = _
    rw [List.findIdx?_map]
    congr 1
    funext z
    exact eqv_dec z v
  rw [e, hj]
  rfl
theorem c_neL (xs ys : List α) (h : EncE.dp α ≤ 60 := by decide) : cmpD .ne (.list (encL xs)) (.list (encL ys)) = some (!dec (xs = ys)) := by
  have h' : EncE.dp (List α) ≤ 64 := by show EncE.dp α + 1 ≤ 64; omega
  show (if (SeqAt.shaped (enc xs) && SeqAt.shaped (enc ys)) = true then some (!PyData.eqv (enc xs) (enc ys)) else none) = _
  rw [shp_of (EncE.lay xs) (EncE.dep xs) h', shp_of (EncE.lay ys) (EncE.dep ys) h', eqv_dec]
  rfl
theorem c_eqT (xs ys : Tp α) (h : EncE.dp α ≤ 60 := by decide) : cmpD .eq (.tuple (encL xs.l)) (.tuple (encL ys.l)) = some (dec (xs = ys)) := by
  have h' : EncE.dp (Tp α) ≤ 64 := by show EncE.dp α + 1 ≤ 64; omega
  show (if (SeqAt.shaped (enc xs) && SeqAt.shaped (enc ys)) = true then some (PyData.eqv (enc xs) (enc ys)) else none) = _
  rw [shp_of (EncE.lay xs) (EncE.dep xs) h', shp_of (EncE.lay ys) (EncE.dep ys) h', eqv_dec]
  rfl
theorem c_neT (xs ys : Tp α) (h : EncE.dp α ≤ 60 := by decide) : cmpD .ne (.tuple (encL xs.l)) (.tuple (encL ys.l)) = some (!dec (xs = ys)) := by
  have h' : EncE.dp (Tp α) ≤ 64 := by show EncE.dp α + 1 ≤ 64; omega
  show (if (SeqAt.shaped (enc xs) && SeqAt.shaped (enc ys)) = true then some (!PyData.eqv (enc xs) (enc ys)) else none) = _
  rw [shp_of (EncE.lay xs) (EncE.dep xs) h', shp_of (EncE.lay ys) (EncE.dep ys) h', eqv_dec]
  rfl
theorem c_eqP (x y : α × β) (h : EncE.dp (α × β) ≤ 60 := by decide) : cmpD .eq (.tuple [enc x.1, enc x.2]) (.tuple [enc y.1, enc y.2]) = some (dec (x = y)) := by
  show (if (SeqAt.shaped (enc x) && SeqAt.shaped (enc y)) = true then some (PyData.eqv (enc x) (enc y)) else none) = _
  rw [shp_of (EncE.lay x) (EncE.dep x) (by omega), shp_of (EncE.lay y) (EncE.dep y) (by omega), eqv_dec]
  rfl
theorem c_neP (x y : α × β) (h : EncE.dp (α × β) ≤ 60 := by decide) : cmpD .ne (.tuple [enc x.1, enc x.2]) (.tuple [enc y.1, enc y.2]) = some (!dec (x = y)) := by
  show (if (SeqAt.shaped (enc x) && SeqAt.shaped (enc y)) = true then some (!PyData.eqv (enc x) (enc y)) else none) = _
  rw [shp_of (EncE.lay x) (EncE.dep x) (by omega), shp_of (EncE.lay y) (EncE.dep y) (by omega), eqv_dec]
  rfl
end
theorem c_lt {i j : Int} : cmpD .lt (.int i) (.int j) = some (decide (i < j)) := rfl
theorem c_le {i j : Int} : cmpD .le (.int i) (.int j) = some (decide (i ≤ j)) := rfl
theorem c_gt {i j : Int} : cmpD .gt (.int i) (.int j) = some (decide (j < i)) := rfl
theorem c_ge {i j : Int} : cmpD .ge (.int i) (.int j) = some (decide (j ≤ i)) := rfl
theorem c_eq {i j : Int} : cmpD .eq (.int i) (.int j) = some (decide (i = j)) := rfl
theorem c_ne {i j : Int} : cmpD .ne (.int i) (.int j) = some (!decide (i = j)) := rfl
theorem c_eqS {i j : Str} : cmpD .eq (.str i) (.str j) = some (decide (i = j)) := rfl
theorem c_neS {i j : Str} : cmpD .ne (.str i) (.str j) = some (!decide (i = j)) := rfl
/-- two written forms are alike -/
theorem c_neR {d e : PyData} (h : d = e) : cmpD .ne (.str d.shown) (.str e.shown) = some false := by
  subst h
  show some (!decide (d.shown = d.shown)) = _
  rw [decide_eq_true rfl]
  rfl
theorem c_eqR {d e : PyData} (h : d = e) : cmpD .eq (.str d.shown) (.str e.shown) = some true := by
  subst h
  show some (decide (d.shown = d.shown)) = _
  rw [decide_eq_true rfl]
theorem c_eqB {a b : Bool} : cmpD .eq (.bool a) (.bool b) = some (a == b) := by
  cases a <;> cases b <;> rfl
theorem c_neB {a b : Bool} : cmpD .ne (.bool a) (.bool b) = some (!(a == b)) := by
  cases a <;> cases b <;> rfl
section
variable {i j k : Int}
theorem b_add : binD .add (.int i) (.int j) = some (.va (.int (i + j))) := rfl
theorem b_sub : binD .sub (.int i) (.int j) = some (.va (.int (i - j))) := rfl
theorem b_mul (h : mulOk i j = true) : binD .mul (.int i) (.int j) = some (.va (.int (i * j))) := if_pos h
theorem b_div (h : divOk j = true) : binD .fdiv (.int i) (.int j) = some (.va (.int (i / j))) := if_pos h
theorem b_mod (h : 0 < j) : binD .md (.int i) (.int j) = some (.va (.int (i % j))) := if_pos h
theorem b_pow (h : 0 ≤ j ∧ j ≤ 1000000 ∧ i.natAbs < 2 ^ 64) : binD .pow (.int i) (.int j) = some (.va (.int (i ^ j.toNat))) := if_pos h
theorem b_powL (h : 0 ≤ j ∧ j ≤ 1000000 ∧ i.natAbs < 2 ^ 64) (e : i ^ j.toNat = k) : binD .pow (.int i) (.int j) = some (.va (.int k)) := by
  rw [b_pow h, e]
variable {α β : Type} [Enc α] [Enc β]
theorem b_cat {xs ys : List α} (h : xs.length + ys.length ≤ 16777216) : binD .add (.list (encL xs)) (.list (encL ys)) = some (.ow (encL (xs ++ ys))) := by
  show (if (encL xs).length + (encL ys).length ≤ 16777216 then some (Rv.ow (encL xs ++ encL ys)) else none) = _
  rw [List.length_map, List.length_map, if_pos h]
  unfold encL
  rw [List.map_append]
theorem b_catT {xs ys : Tp α} (h : xs.l.length + ys.l.length ≤ 16777216) : binD .add (.tuple (encL xs.l)) (.tuple (encL ys.l)) = some (.va (.tuple (encL (Tp.mk (xs.l ++ ys.l)).l))) := by
  show (if (encL xs.l).length + (encL ys.l).length ≤ 16777216 then some (Rv.va (.tuple (encL xs.l ++ encL ys.l))) else none) = _
  rw [List.length_map, List.length_map, if_pos h]
  unfold encL
  rw [List.map_append]
def repL (xs : List α) (k : Int) : List α := (List.replicate k.toNat xs).flatten
theorem b_rep {xs : List α} (h : -1000000 ≤ k ∧ k ≤ 1000000 ∧ xs.length * k.toNat ≤ 16777216) : binD .mul (.list (encL xs)) (.int k) = some (.ow (encL (repL xs k))) := by
  show (if -1000000 ≤ k ∧ k ≤ 1000000 ∧ (encL xs).length * k.toNat ≤ 16777216 then some (Rv.ow (List.replicate k.toNat (encL xs)).flatten) else none) = _
  rw [List.length_map, if_pos h]
  unfold encL repL
  rw [List.map_flatten, List.map_replicate]
theorem b_repR {xs : List PyData} (h : -1000000 ≤ k ∧ k ≤ 1000000 ∧ xs.length * k.toNat ≤ 16777216) : binD .mul (.list xs) (.int k) = some (.ow (List.replicate k.toNat xs).flatten) := if_pos h
theorem b_catR {xs ys : List PyData} (h : xs.length + ys.length ≤ 16777216) : binD .add (.list xs) (.list ys) = some (.ow (xs ++ ys)) := if_pos h
/-! built-ins -/
theorem l_len {xs : List α} : biD .len [.list (encL xs)] = some (.va (.int (xs.length : Int))) := by
  show some (Rv.va (.int ((xs.map enc).length : Int))) = _
  rw [List.length_map]
theorem l_lenT {xs : List α} : biD .len [.tuple (encL xs)] = some (.va (.int (xs.length : Int))) := by
  show some (Rv.va (.int ((xs.map enc).length : Int))) = _
  rw [List.length_map]
theorem l_lenQ {xs : Sq α} : biD .len [enc xs] = some (.va (.int (xs.l.length : Int))) := by
  obtain ⟨t, l⟩ := xs
  cases t
  · exact l_len
  · exact l_lenT
theorem allI : ∀ xs : List Int, allInts (encL xs) = some xs := fun xs => allInts_map xs
theorem l_lenS {ns : List Int} : biD .len [scrD ns] = some (.va (.int (ns.length : Int))) := by
  show (scrOf (scrD ns)).map (fun ns => Rv.va (.int ns.length)) = _
  show (allInts (ns.map PyData.int)).map (fun ns => Rv.va (.int ns.length)) = _
  rw [allInts_map]
  rfl
theorem l_sum {xs : List Int} : biD .sum [.list (encL xs)] = some (.va (.int xs.sum)) := by
  show (allInts (encL xs)).map (fun ns => Rv.va (.int ns.sum)) = _
  rw [allI]
  rfl
theorem l_sumT {xs : List Int} : biD .sum [.tuple (encL xs)] = some (.va (.int xs.sum)) := by
  show (allInts (encL xs)).map (fun ns => Rv.va (.int ns.sum)) = _
  rw [allI]
  rfl
theorem l_sumQ {xs : Sq Int} : biD .sum [enc xs] = some (.va (.int xs.l.sum)) := by
  obtain ⟨t, l⟩ := xs
  cases t
  · exact l_sum
  · exact l_sumT
def imax (i j : Int) : Int := if i < j then j else i
def imin (i j : Int) : Int := if j < i then j else i
def iabs (i : Int) : Int := if i < 0 then -i else i
def b2i (b : Bool) : Int := if b then 1 else 0
theorem l_max2 : biD .max [.int i, .int j] = some (.va (.int (imax i j))) := rfl
theorem l_min2 : biD .min [.int i, .int j] = some (.va (.int (imin i j))) := rfl
theorem l_abs : biD .abs [.int i] = some (.va (.int (iabs i))) := rfl
theorem l_int : biD .int [.int i] = some (.va (.int i)) := rfl
theorem l_intB {b : Bool} : biD .int [.bool b] = some (.va (.int (b2i b))) := rfl
theorem l_maxL {xs : List Int} (h : xs ≠ []) : biD .max [.list (encL xs)] = some (.va (.int (maxI xs))) := by
  show ((allInts (encL xs)).bind fun ns => if ns = [] then none else some (Rv.va (.int (maxI ns)))) = _
  rw [allI]
  exact if_neg h
theorem l_minL {xs : List Int} (h : xs ≠ []) : biD .min [.list (encL xs)] = some (.va (.int (minI xs))) := by
  show ((allInts (encL xs)).bind fun ns => if ns = [] then none else some (Rv.va (.int (minI ns)))) = _
  rw [allI]
  exact if_neg h
theorem l_list {xs : List α} : biD .list [.list (encL xs)] = some (.ow (encL xs)) := rfl
theorem l_listT {xs : List α} : biD .list [.tuple (encL xs)] = some (.ow (encL xs)) := rfl
theorem l_listQ {xs : Sq α} : biD .list [enc xs] = some (.ow (encL xs.l)) := by
  obtain ⟨t, l⟩ := xs
  cases t <;> rfl
theorem l_tuple {xs : List α} : biD .tuple [.list (encL xs)] = some (.va (.tuple (encL (Tp.mk xs).l))) := rfl
theorem l_tupleT {xs : Tp α} : biD .tuple [.tuple (encL xs.l)] = some (.va (.tuple (encL xs.l))) := rfl
theorem l_tupleQ {xs : Sq α} : biD .tuple [enc xs] = some (.va (.tuple (encL (Tp.mk xs.l).l))) := by
  obtain ⟨t, l⟩ := xs
  cases t <;> rfl
theorem allB : ∀ xs : List Bool, allBools (encL xs) = some xs
  | [] => rfl
  | x :: xs => by
    show (allBools (encL xs)).map (x :: ·) = _
    rw [allB xs]
    rfl
theorem l_all {xs : List Bool} : biD .all [.list (encL xs)] = some (.va (.bool (xs.all id))) := by
  show (allBools (encL xs)).map (fun bs => Rv.va (.bool (bs.all id))) = _
  rw [allB]
  rfl
theorem l_any {xs : List Bool} : biD .any [.list (encL xs)] = some (.va (.bool (xs.any id))) := by
  show (allBools (encL xs)).map (fun bs => Rv.va (.bool (bs.any id))) = _
  rw [allB]
  rfl
theorem l_allY {xs : List Yes} : biD .all [.list (encL xs)] = some (.va (.bool true)) := by
  have e : encL xs = encL (xs.map fun _ => true) := by
    unfold encL
    rw [List.map_map]
    rfl
  rw [e, l_all]
  congr 3
  rw [List.all_eq_true]
  intro x hx
  rw [List.mem_map] at hx
  obtain ⟨_, _, e⟩ := hx
  rw [← e]
  rfl
theorem l_sorted {xs : List Int} : biD .sorted [.list (encL xs)] = some (.ow (encL (sortI xs))) := by
  show (match allInts (encL xs) with
    | some ns => some (Rv.ow (List.map PyData.int (sortI ns)))
    | none => (allRows (encL xs)).bind fun rows => some (.ow (List.map (fun r : List Int => PyData.list (List.map PyData.int r)) (sortR rows)))) = _
  rw [allI]
  rfl
theorem allRows_enc : ∀ xs : List (List Int), allRows (encL xs) = some xs
  | [] => rfl
  | x :: xs => by
    show (allInts (encL x)).bind (fun y => (allRows (encL xs)).bind fun ys => some (y :: ys)) = _
    rw [allI, allRows_enc xs]
    rfl
theorem l_sortedR : ∀ {xs : List (List Int)}, biD .sorted [.list (encL xs)] = some (.ow (encL (sortR xs)))
  | [] => by
    have e : sortR [] = [] := by simp [sortR]
    rw [e]
    rfl
  | x :: xs => by
    show (allRows (encL (x :: xs))).bind (fun rows => some (Rv.ow (List.map (fun r : List Int => PyData.list (List.map PyData.int r)) (sortR rows)))) = _
    rw [allRows_enc]
    rfl
theorem l_divmod (h : divOk j = true) : biD .divmod [.int i, .int j] = some (.va (.tuple [.int (i / j), .int (i % j)])) := if_pos h
theorem l_repr {d : PyData} (h : reprOk d = true) : biD .repr [d] = some (.va (.str d.shown)) := if_pos h
/-! items, slices -/
theorem i_list {xs : List α} {i : Int} {v : α} (h : L2.atI xs i = some v) : idxD (.list (encL xs)) (.int i) = some (enc v) := by
  have z : L2.atI (encL xs) i = some (enc v) := by
    have : L2.atI (encL xs) i = (L2.atI xs i).map enc := by
      unfold encL L2.atI
      rw [List.length_map]
      cases L2.ixN xs.length i with
      | none => rfl
      | some j => exact List.getElem?_map ..
    rw [this, h]
    rfl
  exact z
theorem i_tup {xs : List α} {i : Int} {v : α} (h : L2.atI xs i = some v) : idxD (.tuple (encL xs)) (.int i) = some (enc v) := i_list h
theorem i_sq {xs : Sq α} {i : Int} {v : α} (h : L2.atI xs.l i = some v) : idxD (enc xs) (.int i) = some (enc v) := by
  obtain ⟨t, l⟩ := xs
  cases t
  · exact i_list h
  · exact i_tup h
theorem i_scr {ns : List Int} {i v : Int} (h : L2.atI ns i = some v) : idxD (scrD ns) (.int i) = some (.int v) := by
  show ((allInts (ns.map PyData.int)).bind fun ns => (L2.atI ns i).map PyData.int) = _
  rw [allInts_map]
  show (L2.atI ns i).map PyData.int = _
  rw [h]
  rfl
theorem cut_mapG {α β : Type} {f : α → β} {lo hi : Option Int} (xs : List α) : cutD (xs.map f) lo hi = (cutD xs lo hi).map f := by
  unfold cutD
  rw [List.length_map, ← List.map_drop, ← List.map_take]
theorem s_list {xs : List α} {lo hi : Option Int} : slcD (.list (encL xs)) lo hi = some (.ow (encL (cutD xs lo hi))) := by
  show some (Rv.ow (cutD (encL xs) lo hi)) = _
  rw [cut_mapG]
theorem s_tup {xs : List α} {lo hi : Option Int} : slcD (.tuple (encL xs)) lo hi = some (.va (.tuple (encL (Tp.mk (cutD xs lo hi)).l))) := by
  show some (Rv.va (.tuple (cutD (encL xs) lo hi))) = _
  rw [cut_mapG]
theorem s_scr {ns : List Int} {lo hi : Option Int} : slcD (scrD ns) lo hi = some (.ow (encL (cutD ns lo hi))) := by
  show ((allInts (ns.map PyData.int)).bind fun ns => some (Rv.ow ((cutD ns lo hi).map .int))) = _
  rw [allInts_map]
  rfl
theorem n_in {x : Int} {xs : List Int} : innD false (.int x) (.list (encL xs)) = some (xs.contains x) := by
  show ((allInts (encL xs)).map fun ns => if false = true then !ns.contains x else ns.contains x) = _
  rw [allI]
  rfl
theorem n_inT {x : Int} {xs : List Int} : innD false (.int x) (.tuple (encL xs)) = some (xs.contains x) := n_in
theorem n_not {x : Int} {xs : List Int} : innD true (.int x) (.list (encL xs)) = some (!xs.contains x) := by
  show ((allInts (encL xs)).map fun ns => if true = true then !ns.contains x else ns.contains x) = _
  rw [allI]
  rfl
theorem n_notT {x : Int} {xs : List Int} : innD true (.int x) (.tuple (encL xs)) = some (!xs.contains x) := n_not
theorem m_count {x : Int} {xs : List Int} : mthD .count (.list (encL xs)) (.int x) = some (.int (xs.count x)) := by
  show cntL (encL xs) (.int x) = _
  unfold cntL
  rw [allI]
/-! lists that are changed -/
theorem u_app {xs : List α} {v : α} (h : xs.length < 16777216) : mutD .append (encL xs) [enc v] = some (encL (xs ++ [v]), .none) := by
  show (if (encL xs).length < 16777216 then some (encL xs ++ [enc v], PyData.none) else none) = _
  rw [List.length_map, if_pos h]
  unfold encL
  rw [List.map_append]
  rfl
theorem u_appR {xs : List PyData} {v : PyData} (h : xs.length < 16777216) : mutD .append xs [v] = some (xs ++ [v], .none) := if_pos h
theorem u_ext {xs ys : List α} (h : xs.length + ys.length ≤ 16777216) : mutD .extend (encL xs) [.list (encL ys)] = some (encL (xs ++ ys), .none) := by
  show (if (encL xs).length + (encL ys).length ≤ 16777216 then some (encL xs ++ encL ys, PyData.none) else none) = _
  rw [List.length_map, List.length_map, if_pos h]
  unfold encL
  rw [List.map_append]
theorem getLast_map {α β : Type} {f : α → β} : ∀ xs : List α, (xs.map f).getLast? = (xs.getLast?).map f := fun xs => by
  rw [List.getLast?_map]
theorem u_pop {xs : List α} {v : α} (h : xs.getLast? = some v) : mutD .pop (encL xs) [] = some (encL xs.dropLast, enc v) := by
  show ((encL xs).getLast?).map (fun x => ((encL xs).dropLast, x)) = _
  rw [getLast_map, h, ← List.map_dropLast]
  rfl
def popAt {α : Type} (xs : List α) (i : Int) : Option (α × List α) := if -1000000000 ≤ i ∧ i ≤ 1000000000 then (L2.ixN xs.length i).bind fun j => (xs[j]?).map fun x => (x, xs.eraseIdx j) else none
/-- xs[k] = v -/
def setAt {α : Type} (xs : List α) (k : Int) (v : α) : Option (List α) := (L2.ixN xs.length k).map fun j => xs.set j v
theorem eraseIdx_mapG {α β : Type} {f : α → β} : ∀ (xs : List α) (j : Nat), (xs.map f).eraseIdx j = (xs.eraseIdx j).map f
  | [], _ => rfl
  | x :: xs, 0 => rfl
  | x :: xs, j + 1 => by
    show f x :: (xs.map f).eraseIdx j = f x :: (xs.eraseIdx j).map f
    rw [eraseIdx_mapG xs j]
theorem u_popAt {xs : List α} {i : Int} {v : α × List α} (h : popAt xs i = some v) : mutD .pop (encL xs) [.int i] = some (encL v.2, enc v.1) := by
  unfold popAt at h
  split at h
  · rename_i hi
    show (if -1000000000 ≤ i ∧ i ≤ 1000000000 then (L2.ixN (encL xs).length i).bind fun j => ((encL xs)[j]?).map fun x => ((encL xs).eraseIdx j, x) else none) = _
    rw [if_pos hi, List.length_map]
    rw [Option.bind_eq_some_iff] at h
    obtain ⟨j, h1, h2⟩ := h
    rw [Option.map_eq_some_iff] at h2
    obtain ⟨x, h3, h4⟩ := h2
    subst h4
    rw [h1]
    show ((encL xs)[j]?).map _ = _
    rw [List.getElem?_map, h3, eraseIdx_mapG]
    rfl
  · cases h
/-! what loops walk -/
def rng1 (b : Int) : List Int := (List.range b.toNat).map fun (k : Nat) => (k : Int)
def rng2 (a b : Int) : List Int := (List.range (b - a).toNat).map fun (k : Nat) => a + (k : Int)
def rng3 (a b : Int) : List Int := (List.range (a - b).toNat).map fun (k : Nat) => a - (k : Int)
def ibd (b : Int) : Prop := -1000000000000 ≤ b ∧ b ≤ 1000000000000
theorem r_1 {b : Int} (h : ibd b) : ints3 [.int b] = some (rng1 b) := if_pos h
theorem r_2 {a b : Int} (h : ibd a ∧ ibd b) : ints3 [.int a, .int b] = some (rng2 a b) := if_pos ⟨h.1.1, h.1.2, h.2.1, h.2.2⟩
theorem r_3 {a b : Int} (h : ibd a ∧ ibd b) : ints3 [.int a, .int b, .int (-1)] = some (rng3 a b) := if_pos ⟨rfl, h.1.1, h.1.2, h.2.1, h.2.2⟩
def enumT {α : Type} : Nat → List α → List (Int × α)
  | _, [] => []
  | k, a :: r => ((k : Int), a) :: enumT (k + 1) r
theorem enum_enc : ∀ (xs : List α) (k : Nat), enumF k (encL xs) = encL (enumT k xs)
  | [], _ => rfl
  | x :: xs, k => by
    show PyData.tuple [.int k, enc x] :: enumF (k + 1) (encL xs) = PyData.tuple [.int k, enc x] :: encL (enumT (k + 1) xs)
    rw [enum_enc xs (k + 1)]
theorem enumT_len : ∀ (xs : List α) (k : Nat), (enumT k xs).length = xs.length
  | [], _ => rfl
  | x :: xs, k => by rw [enumT, List.length_cons, List.length_cons, enumT_len xs (k + 1)]
theorem zip_enc : ∀ (xs : List α) (ys : List β), zipF (encL xs) (encL ys) = encL (List.zip xs ys)
  | [], ys => by cases ys <;> rfl
  | x :: xs, [] => rfl
  | x :: xs, y :: ys => by
    show PyData.tuple [enc x, enc y] :: zipF (encL xs) (encL ys) = PyData.tuple [enc x, enc y] :: encL (List.zip xs ys)
    rw [zip_enc xs ys]
theorem z_list {xs : List α} {ys : List β} : zipD (.list (encL xs)) (.list (encL ys)) = some (encL (List.zip xs ys)) := by
  rw [← zip_enc]
  rfl
theorem z_tup {xs : List α} {ys : List β} : zipD (.tuple (encL xs)) (.tuple (encL ys)) = some (encL (List.zip xs ys)) := by
  rw [← zip_enc]
  rfl
theorem t_list {xs : List α} : items (.list (encL xs)) = some (encL xs) := rfl
theorem t_tup {xs : List α} : items (.tuple (encL xs)) = some (encL xs) := rfl
theorem t_sq {xs : Sq α} : items (enc xs) = some (encL xs.l) := by
  obtain ⟨t, l⟩ := xs
  cases t <;> rfl
end
end Pd
namespace Pd
open PySem
theorem zl_list {α β : Type} [Enc α] [Enc β] {xs : List α} {ys : List β} : zipLD (.list (encL xs)) (.list (encL ys)) = some (encL (List.zip xs ys)) := by
  rw [← zip_enc]
  rfl
end Pd

/-! steps of typed runs -/
namespace Pd
open PySem PySem.Spec PyProof.Rows L2
section
variable {Γ : Tab} {n : Nat} {env e1 e2 e3 W : EnvD} {a b c : Ex} {o : Opd} {X : Type} {K : X → Out} {ss sa sb : Sms} {s : Sm} {d : PyData} {ds : List PyData}
theorem x_cst : evE Γ (.cst d) env = some (.va d, env) := by rw [evE]
theorem x_var {i : Nat} (h : env[i]? = some (.va d)) : evE Γ (.var i) env = some (.va d, env) := by
  rw [evE]
  cases e : env[i]? with
  | none => rw [e] at h; cases h
  | some q =>
    rw [e] at h
    cases h
    rfl
theorem x_varS {i : Nat} (h : env[i]? = some (.ow ds)) : evE Γ (.var i) env = some (.sl i, env) := by
  rw [evE]
  cases e : env[i]? with
  | none => rw [e] at h; cases h
  | some q =>
    rw [e] at h
    cases h
    rfl
theorem x_varI {i : Nat} (h : env[i]? = some (.io ds)) : evE Γ (.var i) env = some (.sl i, env) := by
  rw [evE]
  cases e : env[i]? with
  | none => rw [e] at h; cases h
  | some q =>
    rw [e] at h
    cases h
    rfl
theorem x_andP {p q : Bool} (h1 : evE Γ a env = some (.va (.bool p), e1)) (h2 : evE Γ b e1 = some (.va (.bool q), e1)) : evE Γ (.and_ a b) env = some (.va (.bool (p && q)), e1) := by
  refine x_and h1 ?_
  cases p
  · rfl
  · exact h2
theorem x_orP {p q : Bool} (h1 : evE Γ a env = some (.va (.bool p), e1)) (h2 : evE Γ b e1 = some (.va (.bool q), e1)) : evE Γ (.or_ a b) env = some (.va (.bool (p || q)), e1) := by
  refine x_or h1 ?_
  cases p
  · exact h2
  · rfl
theorem x_iteP {p : Bool} {x y : PyData} (h1 : evE Γ c env = some (.va (.bool p), e1)) (h2 : evE Γ a e1 = some (.va x, e1)) (h3 : evE Γ b e1 = some (.va y, e1)) (hT : p = true → x = d) (hF : p = false → y = d) : evE Γ (.ite c a b) env = some (.va d, e1) := by
  refine x_ite h1 ?_
  cases p
  · rw [← hF rfl]
    exact h3
  · rw [← hT rfl]
    exact h2
theorem x_itePO {p : Bool} {x y : List PyData} (h1 : evE Γ c env = some (.va (.bool p), e1)) (h2 : evE Γ a e1 = some (.ow x, e1)) (h3 : evE Γ b e1 = some (.ow y, e1)) (hT : p = true → x = ds) (hF : p = false → y = ds) : evE Γ (.ite c a b) env = some (.ow ds, e1) := by
  refine x_ite h1 ?_
  cases p
  · rw [← hF rfl]
    exact h3
  · rw [← hT rfl]
    exact h2
theorem x_iteT {p : Bool} {r : Opd × EnvD} (h1 : evE Γ c env = some (.va (.bool p), e1)) (hp : p = true) (h2 : evE Γ a e1 = some r) : evE Γ (.ite c a b) env = some r := by
  subst hp
  exact x_ite h1 h2
theorem x_iteF {p : Bool} {r : Opd × EnvD} (h1 : evE Γ c env = some (.va (.bool p), e1)) (hp : p = false) (h2 : evE Γ b e1 = some r) : evE Γ (.ite c a b) env = some r := by
  subst hp
  exact x_ite h1 h2
theorem x_andTb {p : Bool} {r : Opd × EnvD} (h1 : evE Γ a env = some (.va (.bool p), e1)) (hp : p = true) (h2 : evE Γ b e1 = some r) : evE Γ (.and_ a b) env = some r := by
  subst hp
  exact x_and h1 h2
theorem x_andFb {p : Bool} (h1 : evE Γ a env = some (.va (.bool p), e1)) (hp : p = false) : evE Γ (.and_ a b) env = some (.va (.bool false), e1) := by
  subst hp
  exact x_and h1 rfl
theorem x_orTb {p : Bool} (h1 : evE Γ a env = some (.va (.bool p), e1)) (hp : p = true) : evE Γ (.or_ a b) env = some (.va (.bool true), e1) := by
  subst hp
  exact x_or h1 rfl
theorem x_orFb {p : Bool} {r : Opd × EnvD} (h1 : evE Γ a env = some (.va (.bool p), e1)) (hp : p = false) (h2 : evE Γ b e1 = some r) : evE Γ (.or_ a b) env = some r := by
  subst hp
  exact x_or h1 h2
/-- a value told otherwise -/
theorem x_to {p q : Bool} (h1 : evE Γ a env = some (.va (.bool p), e1)) (h : p = q) : evE Γ a env = some (.va (.bool q), e1) := by
  subst h
  exact h1
theorem x_toV {d' : PyData} (h1 : evE Γ a env = some (.va d, e1)) (h : d = d') : evE Γ a env = some (.va d', e1) := by
  subst h
  exact h1
theorem x_chn0 {o1 o2 : Cop} {p1 p2 p3 : Opd} {x y z : PyData} {t u : Bool} (h1 : evE Γ a env = some (p1, e1)) (h2 : evE Γ b e1 = some (p2, e1)) (h3 : res e1 p1 = some x) (h4 : res e1 p2 = some y) (h5 : cmpD o1 x y = some t) (h6 : evE Γ c e1 = some (p3, e1)) (h7 : res e1 p3 = some z) (h8 : cmpD o2 y z = some u) :
    evE Γ (.chn o1 o2 a b c) env = some (.va (.bool (t && u)), e1) := by
  rw [evE, h1]
  show (evE Γ b e1).bind _ = _
  rw [h2]
  show (res e1 p1).bind _ = _
  rw [h3]
  show (res e1 p2).bind _ = _
  rw [h4]
  show (cmpD o1 x y).bind _ = _
  rw [h5]
  cases t with
  | false => rfl
  | true =>
    show (evE Γ c e1).bind _ = _
    rw [h6]
    show (res e1 p2).bind _ = _
    rw [h4]
    show (res e1 p3).bind _ = _
    rw [h7]
    show (cmpD o2 y z).bind _ = _
    rw [h8]
    rfl
theorem x_rev (h1 : evE Γ a env = some (o, e1)) (h2 : res e1 o = some (.list ds)) : evE Γ (.rev a) env = some (.ow ds.reverse, e1) := by
  rw [evE, h1]
  show (res e1 o).bind _ = _
  rw [h2]
  rfl
theorem x_revL {α : Type} [Enc α] {xs : List α} (h1 : evE Γ a env = some (o, e1)) (h2 : res e1 o = some (.list (encL xs))) : evE Γ (.rev a) env = some (.ow (encL xs.reverse), e1) := by
  have := x_rev h1 h2
  unfold encL at this ⊢
  rw [List.map_reverse]
  exact this
theorem x_mth {m : Mth} {o1 o2 : Opd} {x y r : PyData} (h1 : evE Γ a env = some (o1, e1)) (h0 : res e1 o1 = some x) (h2 : evE Γ b e1 = some (o2, e2)) (h3 : res e2 o1 = some x) (h4 : res e2 o2 = some y) (hk : sameK x x = true) (h5 : mthD m x y = some r) : evE Γ (.mth m a b) env = some (.va r, e2) := by
  rw [evE, h1]
  show (res e1 o1).bind _ = _
  rw [h0]
  show (evE Γ b e1).bind _ = _
  rw [h2]
  show (res e2 o1).bind _ = _
  rw [h3]
  show (res e2 o2).bind _ = _
  rw [h4]
  show (if sameK x x = true then _ else none) = _
  rw [if_pos hk, h5]
  rfl
theorem x_zipL {o1 o2 : Opd} {x y : PyData} {r : List PyData} (h1 : evE Γ a env = some (o1, e1)) (h2 : evE Γ b e1 = some (o2, e2)) (h3 : res e2 o1 = some x) (h4 : res e2 o2 = some y) (h5 : zipLD x y = some r) : evE Γ (.zipL a b) env = some (.ow r, e2) := by
  rw [evE, h1]; show (evE Γ b e1).bind _ = _; rw [h2]; show (res e2 o1).bind _ = _; rw [h3]; show (res e2 o2).bind _ = _; rw [h4]; show (zipLD x y).bind _ = _; rw [h5]; rfl
theorem x_rngL {es : Exs} {os : List Opd} {ns : List Int} (h1 : evEs Γ es env = some (os, e1)) (h2 : ress e1 os = some ds) (h3 : ints3 ds = some ns) (h4 : ns.length ≤ 16777216) : evE Γ (.rngL false es) env = some (.ow (encL ns), e1) := by
  rw [evE, h1]
  show (ress e1 os).bind _ = _
  rw [h2]
  show (ints3 ds).bind _ = _
  rw [h3]
  show (if ns.length ≤ 16777216 then _ else none) = _
  rw [if_pos h4]
  rfl
theorem x_rngT {es : Exs} {os : List Opd} {ns : List Int} (h1 : evEs Γ es env = some (os, e1)) (h2 : ress e1 os = some ds) (h3 : ints3 ds = some ns) (h4 : ns.length ≤ 16777216) : evE Γ (.rngL true es) env = some (.va (.tuple (encL (Tp.mk ns).l)), e1) := by
  rw [evE, h1]
  show (ress e1 os).bind _ = _
  rw [h2]
  show (ints3 ds).bind _ = _
  rw [h3]
  show (if ns.length ≤ 16777216 then _ else none) = _
  rw [if_pos h4]
  rfl
theorem x_lst' {es : Exs} {os : List Opd} (h1 : evEs Γ es env = some (os, e1)) (h2 : frzs e1 os = some (ds, e2)) (h3 : decide (ds.length ≤ 16777216) = true) : evE Γ (.lst es) env = some (.ow ds, e2) := x_lst h1 h2 (of_decide_eq_true h3)
theorem x_tup' {es : Exs} {os : List Opd} (h1 : evEs Γ es env = some (os, e1)) (h2 : frzs e1 os = some (ds, e2)) (h3 : decide (ds.length ≤ 16777216) = true) : evE Γ (.tup es) env = some (.va (.tuple ds), e2) := x_tup h1 h2 (of_decide_eq_true h3)
/-! what loops walk -/
theorem xr_exL {α : Type} [Enc α] {xs : List α} (h1 : evE Γ a env = some (o, e1)) (h2 : frz e1 o = some (d, e2)) (h3 : items d = some (encL xs)) : evS Γ (.ex a) env = some (encL xs, e2) := xr_ex h1 h2 h3
theorem xr_rngL {es : Exs} {os : List Opd} {ns : List Int} (h1 : evEs Γ es env = some (os, e1)) (h2 : ress e1 os = some ds) (h3 : ints3 ds = some ns) : evS Γ (.rng es) env = some (encL ns, e1) := xr_rng h1 h2 h3
theorem xr_enumL {α : Type} [Enc α] {xs : List α} (h1 : evE Γ a env = some (o, e1)) (h2 : frz e1 o = some (d, e2)) (h3 : items d = some (encL xs)) : evS Γ (.enum a) env = some (encL (enumT 0 xs), e2) := by
  rw [← enum_enc]
  exact xr_enum h1 h2 h3
theorem xr_zipL {o1 o2 : Opd} {x y : PyData} {ys : List PyData} (h1 : evE Γ a env = some (o1, e1)) (h2 : evE Γ b e1 = some (o2, e2)) (h3 : frzs e2 [o1, o2] = some ([x, y], e3)) (h4 : zipD x y = some ys) : evS Γ (.zip a b) env = some (ys, e3) := xr_zip h1 h2 h3 h4
/-! comprehensions -/
theorem x_compM {α β : Type} [Enc α] [Enc β] {sr : Src} {el : Ex} {tg : Tg} {own : List Nat} {its : List α} {f : α → Option β} {out : List β} (hs : evS Γ sr env = some (encL its, e1)) (hl : its.length < 16777216) (h : mpM f its = some out) (hw : wipe1 e1 own = W)
    (hb : ∀ x y, f x = some y → ∃ ea o eb ec, asgT Γ tg (enc x) W = some ea ∧ evE Γ el ea = some (o, eb) ∧ frz eb o = some (enc y, ec) ∧ wipe1 ec own = W) (hk : back e1 own W = some e2) : evE Γ (.comp el tg sr .nil own) env = some (.ow (encL out), e2) := by
  refine x_comp hs (by rw [List.length_map]; exact hl) ?_ hk
  rw [hw]
  refine mpM_sim h fun x y hxy => ?_
  obtain ⟨ea, o, eb, ec, z1, z2, z3, z4⟩ := hb x y hxy
  refine ⟨ea, ec, z1, by rw [evAll], ?_, z4⟩
  show (evE Γ el ea).bind _ = _
  rw [z2]
  exact z3
theorem mpM_pure {α β : Type} (g : α → β) : ∀ xs : List α, mpM (fun a => some (g a)) xs = some (xs.map g)
  | [] => rfl
  | x :: xs => by
    show bd (some (g x)) (fun b => bd (mpM (fun a => some (g a)) xs) fun bs => some (b :: bs)) = _
    rw [mpM_pure g xs]
    rfl
theorem x_compOM {α β : Type} [Enc α] [Enc β] {k : Nat} {el : Ex} {tg : Tg} {own : List Nat} {xs : List α} {f : Int × α → Option β} {out : List β} (hs : env[k]? = some (.ow (encL xs))) (hl : xs.length < 16777216) (hko : decide (k ∉ own) = true) (h : mpM f (enumT 0 xs) = some out) (hw : wipe1 env own = W)
    (hb : ∀ x y, f x = some y → ∃ ea o eb ec, asgT Γ tg (enc x) W = some ea ∧ evE Γ el ea = some (o, eb) ∧ frz eb o = some (enc y, ec) ∧ wipe1 ec own = W) (hk : back env own W = some e2) : evE Γ (.compO k el tg .nil own) env = some (.ow (encL out), e2) := by
  have z := mpM_simP (tg := fun d e => asgT Γ tg d e) (ts := fun e => evAll Γ .nil e) (el := fun e => (evE Γ el e).bind fun r => frz r.2 r.1) (own := own) (W := W) h fun x y hxy => by
    obtain ⟨ea, o, eb, ec, z1, z2, z3, z4⟩ := hb x y hxy
    refine ⟨ea, ec, z1, by rw [evAll], ?_, z4⟩
    show (evE Γ el ea).bind _ = _
    rw [z2]
    exact z3
  have hlen : (encL xs).length = xs.length := List.length_map _
  rw [evE, hs]
  simp only []
  rw [if_pos ⟨by rw [hlen]; exact hl, of_decide_eq_true hko⟩, hw, enum_enc, z]
  show (back env own W).bind _ = _
  rw [hk]
  rfl
theorem x_compP {α β : Type} [Enc α] [Enc β] {sr : Src} {el : Ex} {tg : Tg} {own : List Nat} {its : List α} {g : α → β} (hs : evS Γ sr env = some (encL its, e1)) (hl : its.length < 16777216) (hw : wipe1 e1 own = W)
    (hb : ∀ x, ∃ ea o eb ec, asgT Γ tg (enc x) W = some ea ∧ evE Γ el ea = some (o, eb) ∧ frz eb o = some (enc (g x), ec) ∧ wipe1 ec own = W) (hk : back e1 own W = some e2) : evE Γ (.comp el tg sr .nil own) env = some (.ow (encL (its.map g)), e2) :=
  x_compM hs hl (mpM_pure g its) hw (fun x y h => by
    cases h
    exact hb x) hk
theorem x_compF {α β : Type} [Enc α] [Enc β] {sr : Src} {el t : Ex} {tg : Tg} {own : List Nat} {its : List α} {f : α → Option β} {q : α → Option Bool} {out : List β} (hs : evS Γ sr env = some (encL its, e1)) (hl : its.length < 16777216) (h : fmM q f its = some out) (hw : wipe1 e1 own = W)
    (hc : ∀ x u, q x = some u → ∃ ea, asgT Γ tg (enc x) W = some ea ∧ evE Γ t ea = some (.va (.bool u), ea) ∧ wipe1 ea own = W)
    (hb : ∀ x y, f x = some y → ∃ ea o eb ec, asgT Γ tg (enc x) W = some ea ∧ evE Γ el ea = some (o, eb) ∧ frz eb o = some (enc y, ec) ∧ wipe1 ec own = W) (hk : back e1 own W = some e2) : evE Γ (.comp el tg sr (.cons t .nil) own) env = some (.ow (encL out), e2) := by
  refine x_comp hs (by rw [List.length_map]; exact hl) ?_ hk
  rw [hw]
  refine fmM_sim h (fun x u hu => ?_) fun x y hxy ea' hea => ?_
  · obtain ⟨ea, z1, z2, z3⟩ := hc x u hu
    refine ⟨ea, z1, ?_, z3⟩
    show evAll Γ (.cons t .nil) ea = _
    rw [evAll, z2]
    cases u
    · rfl
    · show evAll Γ .nil ea = _
      rw [evAll]
  · obtain ⟨ea, o, eb, ec, z1, z2, z3, z4⟩ := hb x y hxy
    have hea : asgT Γ tg (enc x) W = some ea' := hea
    rw [z1] at hea
    have hea : ea = ea' := by injection hea
    subst hea
    refine ⟨ec, ?_, z4⟩
    show (evE Γ el ea).bind _ = _
    rw [z2]
    exact z3
theorem fmM_pure {α β : Type} (p : α → Bool) (g : α → β) : ∀ xs : List α, fmM (fun a => some (p a)) (fun a => some (g a)) xs = some ((xs.filter p).map g)
  | [] => rfl
  | x :: xs => by
    have ih := fmM_pure p g xs
    show bd (some (p x)) (fun t => match t with
      | true => bd (some (g x)) fun b => bd (fmM (fun a => some (p a)) (fun a => some (g a)) xs) fun bs => some (b :: bs)
      | false => fmM (fun a => some (p a)) (fun a => some (g a)) xs) = _
    rw [List.filter_cons]
    show (match p x with
      | true => bd (some (g x)) fun b => bd (fmM (fun a => some (p a)) (fun a => some (g a)) xs) fun bs => some (b :: bs)
      | false => fmM (fun a => some (p a)) (fun a => some (g a)) xs) = _
    cases p x
    · exact ih
    · dsimp only
      rw [ih]
      rfl
theorem x_compFP {α β : Type} [Enc α] [Enc β] {sr : Src} {el t : Ex} {tg : Tg} {own : List Nat} {its : List α} {g : α → β} {p : α → Bool} (hs : evS Γ sr env = some (encL its, e1)) (hl : its.length < 16777216) (hw : wipe1 e1 own = W)
    (hc : ∀ x, ∃ ea, asgT Γ tg (enc x) W = some ea ∧ evE Γ t ea = some (.va (.bool (p x)), ea) ∧ wipe1 ea own = W)
    (hb : ∀ x, ∃ ea o eb ec, asgT Γ tg (enc x) W = some ea ∧ evE Γ el ea = some (o, eb) ∧ frz eb o = some (enc (g x), ec) ∧ wipe1 ec own = W) (hk : back e1 own W = some e2) : evE Γ (.comp el tg sr (.cons t .nil) own) env = some (.ow (encL ((its.filter p).map g)), e2) :=
  x_compF hs hl (fmM_pure p g its) hw (fun x u h => by
    cases h
    exact hc x) (fun x y h => by
    cases h
    exact hb x) hk
theorem x_compS {α β S : Type} [Enc α] [Enc β] {sr : Src} {el : Ex} {tg : Tg} {own : List Nat} {its : List α} {f : α → S → Option (β × S)} {s0 : S} {out : List β × S} (hs : evS Γ sr env = some (encL its, e1)) (hl : its.length < 16777216) (h : mpS f its s0 = some out) (E : S → EnvD) (hw : wipe1 e1 own = E s0)
    (hb : ∀ x s y, f x s = some y → ∃ ea o eb ec, asgT Γ tg (enc x) (E s) = some ea ∧ evE Γ el ea = some (o, eb) ∧ frz eb o = some (enc y.1, ec) ∧ wipe1 ec own = E y.2) (hk : back e1 own (E out.2) = some e2) : evE Γ (.comp el tg sr .nil own) env = some (.ow (encL out.1), e2) := by
  refine x_comp hs (by rw [List.length_map]; exact hl) ?_ hk
  rw [hw]
  refine mpS_sim h E fun x s y hxy => ?_
  obtain ⟨ea, o, eb, ec, z1, z2, z3, z4⟩ := hb x s y hxy
  refine ⟨ea, ec, z1, by rw [evAll], ?_, z4⟩
  show (evE Γ el ea).bind _ = _
  rw [z2]
  exact z3
/-! statements -/
theorem ex_env (h : env = e1) (k : ∃ z, exSs Γ n ss e1 = some (K z)) : ∃ z, exSs Γ n ss env = some (K z) := h ▸ k
theorem ex_nx (h1 : exS Γ n s env = some (.nx e1)) (he : e1 = e2) (k : ∃ z, exSs Γ n ss e2 = some (K z)) : ∃ z, exSs Γ n (.cons s ss) env = some (K z) := by
  subst he
  obtain ⟨z, k⟩ := k
  exact ⟨z, y_nx h1 k⟩
theorem ex_exp (h1 : evE Γ a env = some (o, e1)) (he : e1 = e2) (k : ∃ z, exSs Γ n ss e2 = some (K z)) : ∃ z, exSs Γ n (.cons (.exp a) ss) env = some (K z) := ex_nx (y_exp h1) he k
theorem sp_nil {i : Nat} : spoilL i [] env = some env := rfl
theorem sp_cons {i j : Nat} {r : List Nat} {ds : List PyData} {e3 : EnvD} (h1 : env[j]? = some (.ow ds)) (h2 : ds.length < 16777216) (h3 : (decide (i < env.length) && decide (j ≠ i)) = true) (h4 : (env.set j .no).set i (.ow (ds ++ [.none])) = e2) (h5 : spoilL i r e2 = some e3) : spoilL i (j :: r) env = some e3 := by
  rw [Bool.and_eq_true, decide_eq_true_eq, decide_eq_true_eq] at h3
  unfold spoilL
  rw [h1]
  simp only []
  rw [if_pos ⟨h2, h3.1, h3.2⟩, h4]
  exact h5
theorem ex_spoil {i : Nat} {is : List Nat} (h : spoilL i is env = some e2) (hl : (decide (is.length ≤ 100)) = true) (k : ∃ z, exSs Γ n ss e2 = some (K z)) : ∃ z, exSs Γ n (.cons (.spoil i is) ss) env = some (K z) := ex_nx (by
  rw [exS, if_pos (of_decide_eq_true hl), h]
  rfl) rfl k
theorem ex_asgV {i : Nat} {mv : Bool} (h1 : evE Γ a env = some (.va d, e1)) (he : e1.set i (.va d) = e2) (hl : (decide (i < e1.length)) = true) (k : ∃ z, exSs Γ n ss e2 = some (K z)) : ∃ z, exSs Γ n (.cons (.asg i a mv) ss) env = some (K z) := ex_nx (y_asgV h1 hl he) rfl k
theorem ex_asgO {i : Nat} {mv : Bool} (h1 : evE Γ a env = some (.ow ds, e1)) (he : e1.set i (.ow ds) = e2) (hl : (decide (i < e1.length)) = true) (k : ∃ z, exSs Γ n ss e2 = some (K z)) : ∃ z, exSs Γ n (.cons (.asg i a mv) ss) env = some (K z) := ex_nx (y_asgO h1 hl he) rfl k
/-- x = y, a list of one's own: it stays from now on -/
theorem ex_asgS {i j : Nat} (h1 : evE Γ a env = some (.sl j, e1)) (h2 : frz e1 (.sl j) = some (d, e2)) (he : e2.set i (.va d) = e3) (hl : (decide (i < e1.length)) = true) (k : ∃ z, exSs Γ n ss e3 = some (K z)) : ∃ z, exSs Γ n (.cons (.asg i a false) ss) env = some (K z) := by
  subst he
  refine ex_nx (e1 := e2.set i (.va d)) ?_ rfl k
  rw [exS, h1]
  show (if i < e1.length then (frz e1 (.sl j)).bind (fun q => some (Out.nx (q.2.set i (.va q.1)))) else none) = _
  rw [if_pos (of_decide_eq_true hl), h2]
  rfl
theorem ex_asgT {tg : Tg} (h1 : evE Γ a env = some (o, e1)) (h2 : frz e1 o = some (d, e2)) (h3 : asgT Γ tg d e2 = some e3) (k : ∃ z, exSs Γ n ss e3 = some (K z)) : ∃ z, exSs Γ n (.cons (.asgT tg a) ss) env = some (K z) := ex_nx (y_asgT h1 h2 h3) rfl k
/-- x = y, a list of one's own that moves -/
theorem ex_asgM {i j : Nat} (h1 : evE Γ a env = some (.sl j, e1)) (h2 : e1[j]? = some (.ow ds)) (he : (e1.set j .no).set i (.ow ds) = e2) (hl : (decide (i < e1.length)) = true) (k : ∃ z, exSs Γ n ss e2 = some (K z)) : ∃ z, exSs Γ n (.cons (.asg i a true) ss) env = some (K z) := by
  refine ex_nx (e1 := e2) ?_ rfl k
  rw [exS, h1]
  simp only [Option.bind_some]
  rw [if_pos (of_decide_eq_true hl)]
  try simp only []
  rw [h2]
  try simp only []
  rw [he]
theorem encL_set {α : Type} [Enc α] : ∀ (xs : List α) (j : Nat) (v : α), encL (xs.set j v) = (encL xs).set j (enc v)
  | [], _, _ => rfl
  | x :: xs, 0, v => rfl
  | x :: xs, j + 1, v => by
    show enc x :: encL (xs.set j v) = enc x :: (encL xs).set j (enc v)
    rw [encL_set xs j v]
theorem asg_sb {α : Type} [Enc α] {i : Nat} {ix : Ex} {k : Int} {xs ys : List α} {v : α} (hd : d = enc v) (h0 : isOwn env i = true) (h1 : evE Γ ix env = some (.va (.int k), e1)) (h2 : e1[i]? = some (.ow (encL xs))) (h : setAt xs k v = some ys) (he : e1.set i (.ow (encL ys)) = e2) : asgT Γ (.sb i ix) d env = some e2 := by
  unfold setAt at h
  rw [Option.map_eq_some_iff] at h
  obtain ⟨j, hj, e⟩ := h
  subst e
  subst hd
  rw [asgT, if_pos h0, h1]
  simp only [Option.bind_some]
  rw [h2]
  have hl : (encL xs).length = xs.length := List.length_map _
  simp only []
  rw [hl, hj]
  simp only [Option.bind_some]
  rw [← encL_set, he]
theorem x_lenSet {xs : List Int} (h1 : evE Γ a env = some (.va (.tuple (encL xs)), e1)) (h2 : xs.length ≤ 4000) : evE Γ (.lenSet a) env = some (.va (.int (xs.eraseDups.length : Nat)), e1) := by
  rw [evE, h1]
  have e : lenSetD (.tuple (encL xs)) = some (.int (xs.eraseDups.length : Nat)) := by
    show (allInts (encL xs)).bind _ = _
    rw [allI xs]
    exact if_pos h2
  show (lenSetD (.tuple (encL xs))).bind _ = _
  rw [e]
  rfl
theorem ex_par {is : List Nat} {es : Exs} {os os' : List Opd} (h1 : evEs Γ es env = some (os, e1)) (h2 : frzSl e1 os = some (os', e2)) (h3 : setAll is os' e2 = some e3) {e4 : EnvD} (he : e3 = e4) (k : ∃ z, exSs Γ n ss e4 = some (K z)) : ∃ z, exSs Γ n (.cons (.par is es) ss) env = some (K z) := ex_nx (y_par h1 h2 h3) he k
theorem ex_ifF {p : Bool} (pc : evE Γ c env = some (.va (.bool p), e1)) (hp : p = false) (he : e1 = e2) (k : ∃ z, exSs Γ n ss e2 = some (K z)) : ∃ z, exSs Γ n (.cons (.ite c sa .nil) ss) env = some (K z) := by
  subst hp
  exact ex_nx (y_ifF pc y_nil) he k
theorem ex_ifT {R : X → Rv} {T : X → EnvD} {p : Bool} (pc : evE Γ c env = some (.va (.bool p), e1)) (hp : p = true) (he : e1 = e2) (k : ∃ z, exSs Γ n sa e2 = some (.rt (R z) (T z))) : ∃ z, exSs Γ n (.cons (.ite c sa sb) ss) env = some (.rt (R z) (T z)) := by
  subst hp
  subst he
  obtain ⟨z, k⟩ := k
  exact ⟨z, y_rt (y_ifT pc k)⟩
theorem ex_ifE {R : X → Rv} {T : X → EnvD} {p : Bool} (pc : evE Γ c env = some (.va (.bool p), e1)) (hp : p = false) (he : e1 = e2) (k : ∃ z, exSs Γ n sb e2 = some (.rt (R z) (T z))) : ∃ z, exSs Γ n (.cons (.ite c sa sb) ss) env = some (.rt (R z) (T z)) := by
  subst hp
  subst he
  obtain ⟨z, k⟩ := k
  exact ⟨z, y_rt (y_ifF pc k)⟩
/-- return (x if c else y), what is returned stays from now on -/
theorem ex_rfT {R : X → Rv} {T : X → EnvD} {p : Bool} (pc : evE Γ c env = some (.va (.bool p), e1)) (hp : p = true) (he : e1 = e2) (k : ∃ z, exSs Γ n (.cons (.ret (.fz a)) .nil) e2 = some (.rt (R z) (T z))) : ∃ z, exSs Γ n (.cons (.ret (.fz (.ite c a b))) ss) env = some (.rt (R z) (T z)) := by
  subst hp
  subst he
  obtain ⟨z, k⟩ := k
  refine ⟨z, y_rt ?_⟩
  have e : evE Γ (.fz (.ite c a b)) env = evE Γ (.fz a) e1 := by
    rw [evE, evE, evE, pc]
    rfl
  rw [exS, e]
  rw [exSs, exS] at k
  cases hh : evE Γ (.fz a) e1 with
  | none =>
    rw [hh] at k
    cases k
  | some q =>
    rw [hh] at k
    obtain ⟨o, e3⟩ := q
    cases o with
    | va d => exact k
    | ow ds => exact k
    | sl j =>
      simp only [Option.bind_some] at k ⊢
      split at k
      · exact k
      · cases k
theorem ex_rfE {R : X → Rv} {T : X → EnvD} {p : Bool} (pc : evE Γ c env = some (.va (.bool p), e1)) (hp : p = false) (he : e1 = e2) (k : ∃ z, exSs Γ n (.cons (.ret (.fz b)) .nil) e2 = some (.rt (R z) (T z))) : ∃ z, exSs Γ n (.cons (.ret (.fz (.ite c a b))) ss) env = some (.rt (R z) (T z)) := by
  subst hp
  subst he
  obtain ⟨z, k⟩ := k
  refine ⟨z, y_rt ?_⟩
  have e : evE Γ (.fz (.ite c a b)) env = evE Γ (.fz b) e1 := by
    rw [evE, evE, evE, pc]
    rfl
  rw [exS, e]
  rw [exSs, exS] at k
  cases hh : evE Γ (.fz b) e1 with
  | none =>
    rw [hh] at k
    cases k
  | some q =>
    rw [hh] at k
    obtain ⟨o, e3⟩ := q
    cases o with
    | va d => exact k
    | ow ds => exact k
    | sl j =>
      simp only [Option.bind_some] at k ⊢
      split at k
      · exact k
      · cases k
theorem ex_join {Y : Type} {E : Y → EnvD} (p : ∃ x, exS Γ n s env = some (.nx (E x))) (k : ∀ x, ∃ z, exSs Γ n ss (E x) = some (K z)) : ∃ z, exSs Γ n (.cons s ss) env = some (K z) := by
  obtain ⟨x, p⟩ := p
  exact ex_nx p rfl (k x)
theorem jn_T {Y : Type} {E : Y → EnvD} {p : Bool} (pc : evE Γ c env = some (.va (.bool p), e1)) (hp : p = true) (he : e1 = e2) (k : ∃ x, exSs Γ n sa e2 = some (.nx (E x))) : ∃ x, exS Γ n (.ite c sa sb) env = some (.nx (E x)) := by
  subst hp
  subst he
  obtain ⟨x, k⟩ := k
  exact ⟨x, y_ifT pc k⟩
theorem jn_F {Y : Type} {E : Y → EnvD} {p : Bool} (pc : evE Γ c env = some (.va (.bool p), e1)) (hp : p = false) (he : e1 = e2) (k : ∃ x, exSs Γ n sb e2 = some (.nx (E x))) : ∃ x, exS Γ n (.ite c sa sb) env = some (.nx (E x)) := by
  subst hp
  subst he
  obtain ⟨x, k⟩ := k
  exact ⟨x, y_ifF pc k⟩
theorem ex_t {b : EnvD → Option Out} {o : Option EnvD} (h : o = some e1) (k : ∃ z, b e1 = some (K z)) : ∃ z, o.bind b = some (K z) := by
  subst h
  exact k
theorem ex_for {Y α S : Type} [Enc α] {sr : Src} {tg : Tg} {b : Sms} {f : α → S → Option S} {its : List α} {s0 s1 : S} (hs : evS Γ sr env = some (encL its, e1)) (h : forM f its s0 = some s1) (E : Y → S → EnvD) (x0 : Y) (he : e1 = E x0 s0)
    (hb : ∀ a x s s', f a s = some s' → ∃ x', (asgT Γ tg (enc a) (E x s)).bind (fun e => exSs Γ n b e) = some (.nx (E x' s'))) (k : ∀ x, ∃ z, exSs Γ n ss (E x s1) = some (K z)) : ∃ z, exSs Γ n (.cons (.for_ tg sr b) ss) env = some (K z) := by
  subst he
  obtain ⟨x', p⟩ := forM_sim (tg := fun d e => asgT Γ tg d e) (b := fun e => exSs Γ n b e) h E hb x0
  exact ex_nx (y_for hs p) rfl (k x')
theorem ex_forR {Y α S ρ : Type} [Enc α] {sr : Src} {tg : Tg} {b : Sms} {f : α → S → Option (S ⊕ ρ)} {its : List α} {s0 : S} {o : S ⊕ ρ} (hs : evS Γ sr env = some (encL its, e1)) (h : forR f its s0 = some o) (E : Y → S → EnvD) (F : ρ → Rv) (T : Y → ρ → EnvD) (x0 : Y) (he : e1 = E x0 s0)
    (hb : ∀ a x s o, f a s = some o → ∃ x', (asgT Γ tg (enc a) (E x s)).bind (fun e => exSs Γ n b e) = some (outR E F T x' o)) (kL : ∀ x s1, o = .inl s1 → ∃ z, exSs Γ n ss (E x s1) = some (K z)) (kR : ∀ x r, o = .inr r → ∃ z, Out.rt (F r) (T x r) = K z) : ∃ z, exSs Γ n (.cons (.for_ tg sr b) ss) env = some (K z) := by
  subst he
  obtain ⟨x', p⟩ := forR_sim (tg := fun d e => asgT Γ tg d e) (b := fun e => exSs Γ n b e) h E F T hb x0
  cases o with
  | inl s1 => exact ex_nx (y_for hs p) rfl (kL x' s1 rfl)
  | inr r =>
    obtain ⟨z, hz⟩ := kR x' r rfl
    refine ⟨z, ?_⟩
    rw [← hz]
    exact y_rt (y_for hs p)
theorem ex_whl {Y S : Type} {b : Sms} {q : S → Option Bool} {f : S → Option S} {s0 s1 : S} (h : whM q f n s0 = some s1) (E : Y → S → EnvD) (x0 : Y) (he : env = E x0 s0)
    (hc : ∀ x s t, q s = some t → evE Γ c (E x s) = some (.va (.bool t), E x s)) (hb : ∀ x s s', f s = some s' → ∃ x', exSs Γ n b (E x s) = some (.nx (E x' s'))) (k : ∀ x, ∃ z, exSs Γ n ss (E x s1) = some (K z)) : ∃ z, exSs Γ n (.cons (.whl c b) ss) env = some (K z) := by
  subst he
  obtain ⟨x', p⟩ := whM_sim (c' := fun e => (evE Γ c e).bind fun p => (truth p.1).bind fun t => some (t, p.2)) (b := fun e => exSs Γ n b e) h E (fun x s t ht => by
    show (evE Γ c (E x s)).bind _ = _
    rw [hc x s t ht]
    rfl) hb x0
  exact ex_nx (y_whl p) rfl (k x')
theorem f_run {nl : Nat} {ds0 : List PyData} {r : Rv} (he : env0 false nl ds0 = env) (k : ∃ e, exSs Γ n ss env = some (.rt r e)) : runD Γ n false nl ss ds0 = some (r, []) := by
  subst he
  obtain ⟨e, k⟩ := k
  exact y_run k rfl
theorem f_runN {nl : Nat} {ds0 : List PyData} (he : env0 false nl ds0 = env) (k : ∃ e, exSs Γ n ss env = some (.nx e)) : runD Γ n false nl ss ds0 = some (.va .none, []) := by
  subst he
  obtain ⟨e, k⟩ := k
  exact y_run k rfl
theorem f_runI {nl : Nat} {ds0 x : List PyData} {r : Rv} (he : env0 true nl ds0 = env) (k : ∃ e, exSs Γ n ss env = some (.rt r (.io x :: e))) : runD Γ n true nl ss ds0 = some (r, x) := by
  subst he
  obtain ⟨e, k⟩ := k
  exact y_run k rfl
end
end Pd
namespace Pd
open PySem PySem.Spec PyProof.Rows L2
section
variable {Γ : Tab} {n : Nat} {env e1 e2 e3 : EnvD} {a : Ex} {o : Opd} {d : PyData} {ds : List PyData}
theorem x_fzV (h : evE Γ a env = some (.va d, e1)) : evE Γ (.fz a) env = some (.va d, e1) := by
  rw [evE, h]
  rfl
theorem x_fzO (h : evE Γ a env = some (.ow ds, e1)) : evE Γ (.fz a) env = some (.va (.list ds), e1) := by
  rw [evE, h]
  rfl
theorem x_fzS {i : Nat} (h : evE Γ a env = some (.sl i, e1)) (h2 : e1[i]? = some (.ow ds)) (h3 : e1.set i (.va (.list ds)) = e2) : evE Γ (.fz a) env = some (.va (.list ds), e2) := by
  subst h3
  rw [evE, h]
  show (fzO e1 (.sl i)).bind _ = _
  unfold fzO
  dsimp only
  rw [h2]
  rfl
theorem x_pre {is : List Nat} {r : Opd × EnvD} (he : preE is env = e1) (h : evE Γ a e1 = some r) : evE Γ (.pre is a) env = some r := by
  subst he
  rw [evE]
  exact h
theorem isi_ok {ts : List Ty} {x : PyData} (h : plainD x = true) (h2 : decide (ts.length ≤ 100) = true) : (plainD x && decide (ts.length ≤ 100)) = true := by
  rw [h, h2]
  rfl
theorem q_plain {α : Type} [Enc α] (x : Sq α) : plainD (enc x) = true := by
  obtain ⟨t, l⟩ := x
  cases t <;> rfl
theorem q_isl {α : Type} [Enc α] (x : Sq α) : [Ty.list, Ty.tuple].any (isTy (enc x)) = true := by
  obtain ⟨t, l⟩ := x
  cases t <;> rfl
theorem cons_eq {α : Type} {x y : α} {xs ys : List α} (h : x = y) (h2 : xs = ys) : x :: xs = y :: ys := by
  subst h
  subst h2
  rfl
theorem dcd_T {p : Prop} [Decidable p] (h : p) : decide p = true := decide_eq_true h
theorem dcd_F {p : Prop} [Decidable p] (h : ¬ p) : decide p = false := decide_eq_false h
theorem nd_F {p : Prop} [Decidable p] (h : p) : (!decide p) = false := by
  rw [decide_eq_true h]
  rfl
theorem nd_T {p : Prop} [Decidable p] (h : ¬ p) : (!decide p) = true := by
  rw [decide_eq_false h]
  rfl
theorem ndc_F {p : Prop} (h : p) : (!dec p) = false := by
  rw [dec_T h]
  rfl
theorem ndc_T {p : Prop} (h : ¬ p) : (!dec p) = true := by
  rw [dec_F h]
  rfl
theorem bF {b : Bool} (h : ¬ b = true) : b = false := by
  cases b
  · rfl
  · exact absurd rfl h
theorem x_callSLO {f i : Nat} {es : Exs} {pm : List Nat} {os : List Opd} {fr : List PyData → Option (Rv × List PyData)} {dp ds x es' : List PyData} (hg : Γ f = some ⟨true, fr⟩) (h1 : evEs Γ es env = some (.sl i :: os, e1)) (hp : pm = List.range (os.length + 1)) (h3 : frzs e1 os = some (ds, e2)) (h4 : e2[i]? = some (.ow dp)) (h5 : fr (.list dp :: ds) = some (.ow es', x)) (h6 : e2.set i (.ow x) = e3) :
    evE Γ (.call f es .nil pm) env = some (.ow es', e3) := by
  subst h6
  exact x_callS (io := false) (r := .ow es') hg rfl h1 hp h3 h4 h5
theorem x_callOL {f : Nat} {es : Exs} {pm : List Nat} {os : List Opd} {fr : List PyData → Option (Rv × List PyData)} {dp ds x es' : List PyData} (hg : Γ f = some ⟨true, fr⟩) (h1 : evEs Γ es env = some (.ow dp :: os, e1)) (hp : pm = List.range (os.length + 1)) (h3 : frzs e1 os = some (ds, e2)) (h5 : fr (.list dp :: ds) = some (.ow es', x)) :
    evE Γ (.call f es .nil pm) env = some (.ow es', e2) := x_callO hg rfl h1 hp h3 h5
theorem encL_id (xs : List PyData) : encL xs = xs := List.map_id xs
/-! data read as typed -/
class Un (α : Type) extends Enc α where
  un : PyData → Option α
  un_eq : ∀ d a, un d = some a → enc a = d
end
end Pd
namespace Pd
open PySem PySem.Spec PyProof.Rows L2
/-- never none -/
class NN (α : Type) [Enc α] : Prop where
  nn : ∀ a : α, enc a ≠ .none
instance : NN Int := ⟨fun _ h => by cases h⟩
instance : NN Bool := ⟨fun _ h => by cases h⟩
instance : NN Str := ⟨fun _ h => by cases h⟩
instance {α : Type} [Enc α] : NN (List α) := ⟨fun _ h => by cases h⟩
instance {α : Type} [Enc α] : NN (Tp α) := ⟨fun _ h => by cases h⟩
instance {α β : Type} [Enc α] [Enc β] : NN (α × β) := ⟨fun _ h => by cases h⟩
instance {α β γ : Type} [Enc α] [Enc β] [Enc γ] : NN (T3 α β γ) := ⟨fun _ h => by cases h⟩
def encO {α : Type} [Enc α] : Option α → PyData
  | none => .none
  | some a => enc a
instance {α : Type} [Enc α] [NN α] : Enc (Option α) := ⟨encO, fun a b h => by
  cases a with
  | none => cases b with
    | none => rfl
    | some y => exact absurd h.symm (NN.nn y)
  | some x => cases b with
    | none => exact absurd h (NN.nn x)
    | some y => rw [Enc.inj x y h]⟩
theorem isD_none {ng : Bool} {d : PyData} (h : d ≠ .none) : isD ng .none d = some ng := by
  cases d <;> first | rfl | exact absurd rfl h
section
variable {α : Type} [Enc α] [NN α]
theorem isO_y (x : Option α) : isD false .none (enc x) = some x.isNone := by
  cases x with
  | none => rfl
  | some y => exact isD_none (NN.nn y)
theorem isO_n (x : Option α) : isD true .none (enc x) = some x.isSome := by
  cases x with
  | none => rfl
  | some y => exact isD_none (NN.nn y)
end
def is_y (b c : Bool) : Bool := decide (c = b)
def is_n (b c : Bool) : Bool := !decide (c = b)
theorem isB_y (b c : Bool) : isD false (.bool b) (.bool c) = some (is_y b c) := rfl
theorem isB_n (b c : Bool) : isD true (.bool b) (.bool c) = some (is_n b c) := rfl
theorem repr_of {d e : PyData} (h : d = e) (h2 : reprOk e = true) : reprOk d = true := by
  subst h
  exact h2
def lenD (d : PyData) : Option Int := match biD .len [d] with
  | some (.va (.int n)) => some n
  | _ => none
theorem len_D {d : PyData} {n : Int} (h : lenD d = some n) : biD .len [d] = some (.va (.int n)) := by
  unfold lenD at h
  split at h
  · rename_i e
    cases h
    exact e
  · cases h
theorem x_toO {Γ : Tab} {env e1 : EnvD} {a : Ex} {ds ds' : List PyData} (h1 : evE Γ a env = some (.ow ds, e1)) (h : ds = ds') : evE Γ a env = some (.ow ds', e1) := by
  subst h
  exact h1
end Pd
namespace Pd
open PySem PySem.Spec PyProof.Rows L2
section
variable {α β : Type} [Enc α] [Enc β]
def Sq.cut (q : Sq α) (lo hi : Option Int) : Sq α := ⟨q.tp, cutD q.l lo hi⟩
/-- a list of one's own, or a tuple -/
def sqRv (q : Sq α) : Rv := match q.tp with
  | false => .ow (encL q.l)
  | true => .va (.tuple (encL q.l))
theorem s_sq {q : Sq α} {lo hi : Option Int} : slcD (enc q) lo hi = some (sqRv (q.cut lo hi)) := by
  obtain ⟨t, l⟩ := q
  cases t
  · exact s_list
  · exact s_tup
theorem frz_sq (q : Sq α) (env : EnvD) : frz env (sqRv q).opd = some (enc q, env) := by
  obtain ⟨t, l⟩ := q
  cases t <;> rfl
theorem res_sq (q : Sq α) (env : EnvD) : res env (sqRv q).opd = some (enc q) := by
  obtain ⟨t, l⟩ := q
  cases t <;> rfl
theorem frzs_vr (q : Sq α) (d : PyData) (env : EnvD) : frzs env [.va d, (sqRv q).opd] = some ([d, enc q], env) := by
  show (frz env (.va d)).bind (fun p => (frzs p.2 [(sqRv q).opd]).bind fun z => some (p.1 :: z.1, z.2)) = _
  show (frzs env [(sqRv q).opd]).bind (fun z => some (d :: z.1, z.2)) = _
  show ((frz env (sqRv q).opd).bind (fun p => (frzs p.2 []).bind fun z => some (p.1 :: z.1, z.2))).bind (fun z => some (d :: z.1, z.2)) = _
  rw [frz_sq]
  rfl
theorem z_sq {a : Sq α} {b : Sq β} (h : a.tp = b.tp) : zipD (enc a) (enc b) = some (encL (List.zip a.l b.l)) := by
  obtain ⟨t, l⟩ := a
  obtain ⟨u, m⟩ := b
  dsimp only at h
  subst h
  cases t
  · exact z_list
  · exact z_tup
end
end Pd
namespace Pd
open PySem PySem.Spec PyProof.Rows L2
instance : Un Int := ⟨fun d => match d with | .int i => some i | _ => none, fun d a h => by
  split at h
  · cases h
    rfl
  · cases h⟩
def unL {α : Type} [Un α] : List PyData → Option (List α)
  | [] => some []
  | d :: r => bd (Un.un d) fun a => bd (unL r) fun as => some (a :: as)
theorem unL_eq {α : Type} [Un α] : ∀ (ds : List PyData) (as : List α), unL ds = some as → as.map enc = ds
  | [], as, h => by
    cases h
    rfl
  | d :: r, as, h => by
    obtain ⟨a, h1, h2⟩ := bd_some h
    obtain ⟨bs, h3, h4⟩ := bd_some h2
    cases h4
    rw [List.map_cons, Un.un_eq d a h1, unL_eq r bs h3]
instance {α : Type} [Un α] : Un (List α) := ⟨fun d => match d with | .list ds => unL ds | _ => none, fun d a h => by
  split at h
  · show PyData.list (a.map enc) = _
    rw [unL_eq _ _ h]
  · cases h⟩
instance {α : Type} [Un α] : Un (Tp α) := ⟨fun d => match d with | .tuple ds => bd (unL ds) fun l => some (Tp.mk l) | _ => none, fun d a h => by
  split at h
  · obtain ⟨l, h1, h2⟩ := bd_some h
    cases h2
    show PyData.tuple (l.map enc) = _
    rw [unL_eq _ _ h1]
  · cases h⟩
instance {α : Type} [Un α] : Un (Sq α) := ⟨fun d => match d with | .list ds => bd (unL ds) fun l => some (Sq.mk false l) | .tuple ds => bd (unL ds) fun l => some (Sq.mk true l) | _ => none, fun d a h => by
  split at h
  · obtain ⟨l, h1, h2⟩ := bd_some h
    cases h2
    show PyData.list (l.map enc) = _
    rw [unL_eq _ _ h1]
  · obtain ⟨l, h1, h2⟩ := bd_some h
    cases h2
    show PyData.tuple (l.map enc) = _
    rw [unL_eq _ _ h1]
  · cases h⟩
theorem unL_ints : ∀ xs : List Int, unL (α := Int) (xs.map enc) = some xs
  | [] => rfl
  | x :: xs => by
    show bd (some x) (fun a => bd (unL (xs.map enc)) fun as => some (a :: as)) = _
    rw [unL_ints xs]
    rfl
end Pd
namespace Pd
open PySem
/-- a name of what stays, or none -/
def jc : Option PyData → Cell
  | none => .no
  | some d => .va d
end Pd
namespace Pd
open PySem
/-- the script -/
structure Scr where
  l : List Int
instance : Enc Scr := ⟨fun s => scrD s.l, fun a b h => by
  unfold scrD at h
  injection h with h
  injection h with h _
  injection h with _ h
  injection h with h
  obtain ⟨x⟩ := a
  obtain ⟨y⟩ := b
  have e : x = y := map_inj (α := Int) _ _ h
  rw [e]⟩
end Pd

/-! drawing -/
namespace Pd
open PySem PySem.Spec PyProof.Rows L2
def bOk (b : Int) : Prop := 0 ≤ b ∧ b < 2147483588
def irDraw (mu q m2 dv : Int) : Sms := (.cons (.ite (.cmp .gt (.idx (.var 0) (.cst (.int (0)))) (.cst (.int (0)))) (.cons (.asgT (.tp (.cons (.sb 0 (.cst (.int (0)))) (.cons (.nm 2) .nil))) (.bi .divmod (.cons (.idx (.var 0) (.cst (.int (0)))) (.cons (.var 1) .nil)))) (.cons (.ret (.var 2)) .nil)) .nil) (.cons (.asgT (.sb 0 (.cst (.int (1)))) (.bin .md (.bi .int (.cons (.bin .add (.bin .mul (.idx (.var 0) (.cst (.int (1)))) (.cst (.int mu))) (.cst (.int q))) .nil)) (.cst (.int (2147483587))))) (.cons (.ret (.bin .md (.bi .int (.cons (.bin .fdiv (.bin .md (.bi .int (.cons (.bin .mul (.idx (.var 0) (.cst (.int (1)))) (.idx (.var 0) (.cst (.int (1))))) .nil)) (.cst (.int m2))) (.cst (.int dv))) .nil)) (.var 1))) .nil)))
/-- a digit, and the pot behind it -/
def draw (mu q m2 dv : Int) (p : Pot) (m : Int) : Int × Pot :=
  if 0 < p.a then (p.a % m, ⟨p.a / m, p.b⟩)
  else
    let b := (p.b * mu + q) % 2147483587
    (b * b % m2 / dv % m, ⟨p.a, b⟩)
noncomputable def drawT (mu q m2 dv : Int) (p : Pot) (m : Int) : Option (Int × Pot) := gd (bOk p.b ∧ 0 < m ∧ m < 2 ^ 200) (some (draw mu q m2 dv p m))
theorem bOk_draw {mu q m2 dv : Int} {p : Pot} {m : Int} (h : bOk p.b) : bOk (draw mu q m2 dv p m).2.b := by
  unfold draw
  split
  · exact h
  · unfold bOk
    dsimp only
    omega
theorem draw_lt {mu q m2 dv : Int} {p : Pot} {m : Int} (hm : 0 < m) : 0 ≤ (draw mu q m2 dv p m).1 ∧ (draw mu q m2 dv p m).1 < m := by
  unfold draw
  split
  · exact ⟨Int.emod_nonneg _ (by omega), Int.emod_lt_of_pos _ hm⟩
  · exact ⟨Int.emod_nonneg _ (by omega), Int.emod_lt_of_pos _ hm⟩
/-- a draw: what one knows of it -/
theorem ok_draw {mu q m2 dv : Int} {p : Pot} {m : Int} (hb : bOk p.b) (hm : 0 < m) (hm2 : m < 2 ^ 200) : Ok (drawT mu q m2 dv p m) fun r => 0 ≤ r.1 ∧ r.1 < m ∧ bOk r.2.b := by
  refine ⟨draw mu q m2 dv p m, ?_, (draw_lt hm).1, (draw_lt hm).2, bOk_draw hb⟩
  unfold drawT
  rw [gd_eq ⟨hb, hm, hm2⟩]
theorem mulOk_of {i j : Int} (a b : Nat) (h1 : i.natAbs < 2 ^ a) (h2 : j.natAbs < 2 ^ b) (h : a + b < 1000000) : mulOk i j = true := by
  unfold mulOk
  have := log2_le h1
  have := log2_le h2
  exact decide_eq_true (by omega)
theorem divOk_of {j : Int} (b : Nat) (h0 : 0 < j) (h2 : j.natAbs < 2 ^ b) (h : b < 9000) : divOk j = true := by
  unfold divOk
  have := log2_le h2
  rw [decide_eq_true h0, decide_eq_true (by omega)]
  rfl
theorem does_draw {Γ : Tab} {mu q m2 dv : Int} (hmu : mu.natAbs < 2 ^ 64 := by decide) (hm : 0 < m2 := by decide) (hm2 : m2 < 2 ^ 64 := by decide) (hd : 0 < dv := by decide) (hd2 : dv < 2 ^ 64 := by decide) : Does (IV (fun r : Pot × Int × Unit => drawT mu q m2 dv r.1 r.2.1)) Γ true 3 (irDraw mu q m2 dv) := IV_of fun t r H => by
  obtain ⟨⟨a, b⟩, m, ⟨⟩⟩ := t
  replace H : drawT mu q m2 dv ⟨a, b⟩ m = some r := H
  unfold drawT at H
  obtain ⟨⟨hb, hm0, hm1⟩, H⟩ := gd_some H
  obtain rfl := some_inj H
  show runD Γ nF true 3 _ [.list [.int a, .int b], .int m] = _
  have hb : bOk b := hb
  have hdm : divOk m = true := divOk_of 200 hm0 (by omega) (by omega)
  by_cases ha : 0 < a
  · have e : draw mu q m2 dv ⟨a, b⟩ m = (a % m, ⟨a / m, b⟩) := if_pos ha
    rw [e]
    refine y_run (y_rt (y_ifT (x_cmp rfl rfl rfl rfl (congrArg some (decide_eq_true ha))) (y_nx (y_asgT (x_biV (xs_cons rfl (xs_cons rfl xs_nil)) rfl (if_pos hdm)) rfl rfl) (y_rt (y_retV rfl))))) rfl
  · have hb2 : bOk ((b * mu + q) % 2147483587) := by
      unfold bOk
      omega
    have m1 : mulOk b mu = true := mulOk_of 32 64 (by unfold bOk at hb; omega) hmu (by omega)
    have m3 : mulOk ((b * mu + q) % 2147483587) ((b * mu + q) % 2147483587) = true := mulOk_of 32 32 (by unfold bOk at hb2; omega) (by unfold bOk at hb2; omega) (by omega)
    have e : draw mu q m2 dv ⟨a, b⟩ m = ((b * mu + q) % 2147483587 * ((b * mu + q) % 2147483587) % m2 / dv % m, ⟨a, (b * mu + q) % 2147483587⟩) := if_neg ha
    rw [e]
    refine y_run (y_nx (y_ifF (x_cmp rfl rfl rfl rfl (congrArg some (decide_eq_false ha))) y_nil) (y_nx (y_asgT (d := .int ((b * mu + q) % 2147483587)) (x_md (x_biV (xs_cons (x_binV (x_mul rfl rfl rfl rfl m1) rfl rfl rfl rfl) xs_nil) rfl rfl) rfl rfl rfl (by omega)) rfl rfl) (y_rt (y_retV (x_md (x_biV (xs_cons (x_fdiv (x_md (x_biV (xs_cons (x_mul rfl rfl rfl rfl m3) xs_nil) rfl rfl) rfl rfl rfl hm) rfl rfl rfl (divOk_of 64 hd (by omega) (by omega))) xs_nil) rfl rfl) rfl rfl rfl hm0))))) rfl
end Pd


/-! typed functions that many laws share -/
namespace Pd
open PySem PySem.Spec PyProof.Rows L2
noncomputable def t_is_list (a_0 : PyData) : Option Bool :=
  gd (plainD a_0 = true) <| some ([.list, .tuple].any (isTy a_0))
noncomputable def t_is_integer (a_0 : PyData) : Option Bool :=
  gd (plainD a_0 = true) <| bd (if ([.int].any (isTy a_0)) = true then gd (plainD a_0 = true) <| some (!([.bool].any (isTy a_0))) else some false) fun v2 => some v2
noncomputable def t_is_within (a_0 : PyData) (a_1 : Int) (a_2 : Int) : Option Bool :=
  bd (t_is_integer a_0) fun r1 => bd (if r1 = true then bd (cmpD .le (.int a_1) a_0) fun t3 => bd (cmpD .le a_0 (.int a_2)) fun t4 => some (t3 && t4) else some false) fun v2 => some v2
noncomputable def t_want_numbers (a_0 : (Sq Int)) : Option Unit :=
  bd (t_is_list (enc a_0)) fun r1 => gd (r1 = true) <| gd (¬ ((60:Int) < (a_0.l.length : Int))) <| gd ((a_0.l).length < 16777216) <| bd (mpM (fun (a4 : Int) => bd (t_is_within ((.int a4) : PyData) ((0:Int) - (1000000000000:Int)) (1000000000000:Int)) fun r6 => some r6) a_0.l) fun v7 => gd (((v7).all id) = true) <| some ()
noncomputable def t_row_below (a_0 : (Sq Int)) : Option (List Int) :=
  gd (((List.zip a_0.l (a_0.cut (some (1:Int)) none).l)).length < 16777216) <| some (((List.zip a_0.l (a_0.cut (some (1:Int)) none).l)).map (fun (a1 : (Int × Int)) => (a1.2 - a1.1)))
noncomputable def t_difference_rows (a_0 : (Sq Int)) : Option (List (List Int)) :=
  bd (t_want_numbers a_0) fun r1 => bd (whM (fun (s2 : (List (List Int)) × (List Int)) =>  some (!dec (s2.2 = []))) (fun (s2 : (List (List Int)) × (List Int)) => gd ((s2.1).length < 16777216) <| lt ((s2.1 ++ [s2.2]) : (List (List Int))) fun w7 => bd (t_row_below (Sq.mk false s2.2)) fun r8 => some (w7, r8)) nF ([], a_0.l)) fun s9 => some s9.1
noncomputable def t_difference_row (a_0 : (Sq Int)) : Option (List Int) :=
  bd (t_want_numbers a_0) fun r1 => bd (t_row_below a_0) fun r2 => some r2
noncomputable def t_signed (a_0 : (Sq Int)) : Option (List Int) :=
  gd (((enumT 0 a_0.l)).length < 16777216) <| some (((enumT 0 a_0.l)).map (fun (a1 : (Int × Int)) => (if (decide ((a1.1 % (2:Int)) = (0:Int))) = true then a1.2 else ((0:Int) - a1.2))))
noncomputable def t_choose_of (a_0 : Int) (a_1 : Int) : Option Int :=
  if (decide (a_0 < a_1)) = true then (some (0:Int)) else gd (ibd (imin a_1 (a_0 - a_1))) <| bd (forM (fun (a3 : Int) (s4 : Int) => gd (mulOk s4 (a_0 - a3) = true) <| gd (divOk (a3 + (1:Int)) = true) <| lt (((s4 * (a_0 - a3)) / (a3 + (1:Int))) : Int) fun w9 => some w9) (rng1 (imin a_1 (a_0 - a_1))) (1:Int)) fun s10 => some s10
noncomputable def t_summed_at (a_0 : (Sq Int)) (a_1 : Int) : Option Int :=
  gd (((enumT 0 (a_0.cut none (some (a_1 + (1:Int)))).l)).length < 16777216) <| bd (mpM (fun (a1 : (Int × Int)) => bd (t_choose_of a_1 a1.1) fun r3 => gd (mulOk r3 a1.2 = true) <| some (r3 * a1.2)) (enumT 0 (a_0.cut none (some (a_1 + (1:Int)))).l)) fun v5 => some (v5).sum
noncomputable def t_sums_of (a_0 : (Sq Int)) : Option (List Int) :=
  gd (ibd (a_0.l.length : Int)) <| gd (((rng1 (a_0.l.length : Int))).length < 16777216) <| bd (mpM (fun (a2 : Int) => bd (t_summed_at a_0 a2) fun r4 => some r4) (rng1 (a_0.l.length : Int))) fun v5 => some v5
noncomputable def t_back_of (a_0 : (Sq Int)) : Option (List Int) :=
  bd (t_signed a_0) fun r1 => bd (t_sums_of (Sq.mk false r1)) fun r2 => bd (t_signed (Sq.mk false r2)) fun r3 => some r3
noncomputable def t_difference_heads (a_0 : (Sq Int)) : Option (List Int) :=
  bd (t_want_numbers a_0) fun r1 => bd (t_back_of a_0) fun r2 => some r2
noncomputable def t_taken_back (a_0 : (Sq Int)) : Option (List Int) :=
  bd (t_want_numbers a_0) fun r1 => bd (t_back_of a_0) fun r2 => some r2
noncomputable def t_told_heads (a_0 : (Sq Int)) : Option (List Int) :=
  bd (t_back_of a_0) fun r1 => bd (whM (fun (s2 : (List Int)) => bd (if (!dec (s2 = [])) = true then bd (L2.atI s2 (-1:Int)) fun v6 => some (decide (v6 = (0:Int))) else some false) fun v5 => some v5) (fun (s2 : (List Int)) => bd ((s2).getLast?) fun v8 => lt ((s2).dropLast : (List Int)) fun w9 => some w9) nF r1) fun s10 => some s10
noncomputable def t_heads_degree (a_0 : (Sq Int)) : Option Int :=
  bd (t_want_numbers a_0) fun r1 => bd (t_told_heads a_0) fun r2 => some (((r2).length : Int) - (1:Int))
noncomputable def t_want_count (a_0 : Int) (a_1 : Int) : Option Unit :=
  bd (t_is_within ((.int a_0) : PyData) (0:Int) a_1) fun r1 => gd (r1 = true) <| some ()
noncomputable def t_by_heads (a_0 : (Sq Int)) (a_1 : Int) : Option Int :=
  gd (((enumT 0 a_0.l)).length < 16777216) <| bd (mpM (fun (a1 : (Int × Int)) => bd (t_choose_of a_1 a1.1) fun r3 => gd (mulOk r3 a1.2 = true) <| some (r3 * a1.2)) (enumT 0 a_0.l)) fun v5 => some (v5).sum
noncomputable def t_continued (a_0 : (Sq Int)) (a_1 : Int) : Option (List Int) :=
  bd (t_want_numbers a_0) fun r1 => bd (t_want_count a_1 (60:Int)) fun r2 => bd (t_told_heads a_0) fun r3 => gd (ibd a_1) <| gd (((rng1 a_1)).length < 16777216) <| bd (mpM (fun (a5 : Int) => bd (t_by_heads (Sq.mk false r3) ((a_0.l.length : Int) + a5)) fun r7 => some r7) (rng1 a_1)) fun v8 => some v8
noncomputable def t_sums_row (a_0 : (Sq Int)) : Option (List Int) :=
  bd (t_want_numbers a_0) fun r1 => lt ([(0:Int)] : (List Int)) fun w2 => bd (forM (fun (a3 : Int) (s4 : (List Int)) => bd (L2.atI s4 (-1:Int)) fun v7 => gd ((s4).length < 16777216) <| lt ((s4 ++ [(v7 + a3)]) : (List Int)) fun w9 => some w9) a_0.l w2) fun s10 => some s10
noncomputable def t_degree_paper (a_0 : (Sq Int)) (a_1 : Int) : Option (Str × PyData) :=
  bd (t_want_numbers a_0) fun r1 => bd (t_want_count a_1 (60:Int)) fun r2 => bd (t_told_heads a_0) fun r3 => if (decide (((r3).length : Int) ≤ (a_1 + (1:Int)))) = true then (some ((("heads" : Str), r3).1, ((.list (encL (("heads" : Str), r3).2)) : PyData))) else gd (ibd (a_1 + (1:Int))) <| bd (forM (fun (a6 : Int) (s7 : (List Int)) => bd (t_row_below (Sq.mk false s7)) fun r10 => some r10) (rng1 (a_1 + (1:Int))) a_0.l) fun s11 => gd (((enumT 0 s11)).length < 16777216) <| bd (L2.atI ((((enumT 0 s11)).filter (fun (a13 : (Int × Int)) => (!decide (a13.2 = (0:Int))))).map (fun (a13 : (Int × Int)) => a13.1)) (0:Int)) fun v15 => some ((("place" : Str), v15).1, ((.int (("place" : Str), v15).2) : PyData))
noncomputable def t_is_tuple (a_0 : PyData) (a_1 : Int) : Option Bool :=
  gd (plainD a_0 = true) <| bd (if ([.tuple].any (isTy a_0)) = true then bd (lenD a_0) fun v3 => some (decide (v3 = a_1)) else some false) fun v2 => some v2
noncomputable def t_do_tell (a_0 : (Sq Int)) (a_1 : (Sq Int)) : Option Bool :=
  gd (((enumT 0 a_1.l)).length < 16777216) <| bd (mpM (fun (a1 : (Int × Int)) => bd (t_by_heads a_0 a1.1) fun r3 => some (decide (r3 = a1.2))) (enumT 0 a_1.l)) fun v4 => some ((v4).all id)
noncomputable def t_is_degree_paper (a_0 : (Sq Int)) (a_1 : Int) (a_2 : PyData) : Option Bool :=
  bd (t_want_numbers a_0) fun r1 => bd (t_want_count a_1 (60:Int)) fun r2 => bd (t_is_tuple a_2 (2:Int)) fun r3 => bd (if (!r3) = true then some true else bd (idxD a_2 (.int (0:Int))) fun d5 => gd (plainD d5 = true) <| some (!([.str].any (isTy d5)))) fun v4 => if v4 = true then (some false) else bd (idxD a_2 (.int (0:Int))) fun d8 => bd (cmpD .eq d8 (.str ("heads" : Str))) fun t9 => if t9 = true then (bd (idxD a_2 (.int (1:Int))) fun d10 => bd (t_is_list d10) fun r11 => bd (if (!r11) = true then some true else bd (idxD a_2 (.int (1:Int))) fun d13 => bd (items d13) fun v14 => gd ((v14).length < 16777216) <| bd (mpM (fun (a15 : PyData) => bd (t_is_integer a15) fun r17 => some r17) v14) fun v18 => some (!((v18).all id))) fun v12 => if v12 = true then (some false) else bd (idxD a_2 (.int (1:Int))) fun d20 => bd (lenD d20) fun v21 => bd (if (decide (v21 ≤ (a_1 + (1:Int)))) = true then bd (idxD a_2 (.int (1:Int))) fun d23 => bd ((Un.un d23 : Option (Sq Int))) fun u24 => bd (t_do_tell u24 a_0) fun r25 => some r25 else some false) fun v22 => some v22) else gd (ibd (a_1 + (1:Int))) <| bd (forM (fun (a28 : Int) (s29 : (List Int)) => bd (t_row_below (Sq.mk false s29)) fun r32 => some r32) (rng1 (a_1 + (1:Int))) a_0.l) fun s33 => bd (idxD a_2 (.int (0:Int))) fun d35 => bd (cmpD .eq d35 (.str ("place" : Str))) fun t36 => bd (if t36 = true then bd (idxD a_2 (.int (1:Int))) fun d38 => bd (t_is_within d38 (0:Int) (((s33).length : Int) - (1:Int))) fun r39 => bd (if r39 = true then bd (idxD a_2 (.int (1:Int))) fun d41 => bd (idxD (.list (encL s33)) d41) fun d42 => bd (cmpD .ne d42 (.int (0:Int))) fun t43 => some t43 else some false) fun v40 => some v40 else some false) fun v37 => some v37
noncomputable def t_number_by (a_0 : (Sq Int)) (a_1 : Int) : Option Int :=
  bd (t_want_numbers a_0) fun r1 => bd (t_want_count a_1 (200:Int)) fun r2 => bd (t_by_heads a_0 a_1) fun r3 => some r3
noncomputable def t_choice_sums (a_0 : (Sq Int)) : Option (List Int) :=
  bd (t_want_numbers a_0) fun r1 => bd (t_sums_of a_0) fun r2 => some r2
noncomputable def t__law_choose (a_0 : Int) (a_1 : Int) : Option Int :=
  if (!(decide ((0:Int) ≤ a_1) && decide (a_1 ≤ a_0))) = true then (some (0:Int)) else gd (ibd a_1) <| bd (forM (fun (a3 : Int) (s4 : Int) => gd (mulOk s4 (a_0 - a3) = true) <| gd (divOk (a3 + (1:Int)) = true) <| lt (((s4 * (a_0 - a3)) / (a3 + (1:Int))) : Int) fun w9 => some w9) (rng1 a_1) (1:Int)) fun s10 => some s10
noncomputable def t__law_by_heads (a_0 : (Sq Int)) (a_1 : Int) : Option Int :=
  gd (((enumT 0 a_0.l)).length < 16777216) <| bd (mpM (fun (a1 : (Int × Int)) => bd (t__law_choose a_1 a1.1) fun r3 => gd (mulOk r3 a1.2 = true) <| some (r3 * a1.2)) (enumT 0 a_0.l)) fun v5 => some (v5).sum
noncomputable def t__law_rows (a_0 : (List Int)) : Option (List (List Int)) :=
  gd (ibd ((a_0).length : Int)) <| bd (forM (fun (a2 : Int) (s3 : (List (List Int)) × (List Int)) => gd ((s3.1).length < 16777216) <| lt ((s3.1 ++ [s3.2]) : (List (List Int))) fun w7 => gd (((List.zip s3.2 (cutD s3.2 (some (1:Int)) none))).length < 16777216) <| lt ((((List.zip s3.2 (cutD s3.2 (some (1:Int)) none))).map (fun (a8 : (Int × Int)) => (a8.2 - a8.1))) : (List Int)) fun w10 => some (w7, w10)) (rng1 ((a_0).length : Int)) ([], a_0)) fun s11 => some s11.1
end Pd


/-! typed functions that many laws share -/
namespace Pd
open PySem PySem.Spec PyProof.Rows L2
noncomputable def t_want_prime (a_0 : Int) : Option Unit :=
  bd (t_is_within ((.int a_0) : PyData) (2:Int) (97:Int)) fun r1 => gd (r1 = true) <| gd (ibd (2:Int) ∧ ibd a_0) <| gd (((rng2 (2:Int) a_0)).length < 16777216) <| bd (mpM (fun (a4 : Int) => gd (0 < a4) <| some (!decide ((a_0 % a4) = (0:Int)))) (rng2 (2:Int) a_0)) fun v7 => gd (((v7).all id) = true) <| some ()
noncomputable def t_want_great (a_0 : Int) : Option Unit :=
  bd (t_is_within ((.int a_0) : PyData) (0:Int) (1000000000000000000:Int)) fun r1 => gd (r1 = true) <| some ()
noncomputable def t_digits_of (a_0 : Int) (a_1 : Int) : Option (List Int) :=
  bd (whM (fun (s1 : Int × (List Int)) =>  some (decide ((0:Int) < s1.1))) (fun (s1 : Int × (List Int)) => gd (0 < a_0) <| gd ((s1.2).length < 16777216) <| lt ((s1.2 ++ [(s1.1 % a_0)]) : (List Int)) fun w7 => gd (divOk a_0 = true) <| lt ((s1.1 / a_0) : Int) fun w9 => some (w9, w7)) nF (a_1, [])) fun s10 => some s10.2
noncomputable def t_digits (a_0 : Int) (a_1 : Int) : Option (List Int) :=
  bd (t_want_prime a_0) fun r1 => bd (t_want_great a_1) fun r2 => bd (t_digits_of a_0 a_1) fun r3 => some r3
noncomputable def t_digit_sum (a_0 : Int) (a_1 : Int) : Option Int :=
  bd (t_want_prime a_0) fun r1 => bd (t_want_great a_1) fun r2 => bd (t_digits_of a_0 a_1) fun r3 => some (r3).sum
noncomputable def t_want_choice (a_0 : Int) (a_1 : Int) (a_2 : Int) : Option Unit :=
  bd (t_want_prime a_0) fun r1 => bd (t_want_great a_1) fun r2 => bd (t_want_great a_2) fun r3 => some ()
noncomputable def t_both_digits (a_0 : Int) (a_1 : Int) (a_2 : Int) : Option (List (Int × Int)) :=
  bd (t_digits_of a_0 a_1) fun r1 => bd (t_digits_of a_0 a_2) fun r2 => lt ((imax ((r1).length : Int) ((r2).length : Int)) : Int) fun w3 => gd (-1000000 ≤ (w3 - ((r1).length : Int)) ∧ (w3 - ((r1).length : Int)) ≤ 1000000 ∧ ([(0:Int)]).length * ((w3 - ((r1).length : Int))).toNat ≤ 16777216) <| gd ((r1).length + ((repL [(0:Int)] (w3 - ((r1).length : Int)))).length ≤ 16777216) <| gd (-1000000 ≤ (w3 - ((r2).length : Int)) ∧ (w3 - ((r2).length : Int)) ≤ 1000000 ∧ ([(0:Int)]).length * ((w3 - ((r2).length : Int))).toNat ≤ 16777216) <| gd ((r2).length + ((repL [(0:Int)] (w3 - ((r2).length : Int)))).length ≤ 16777216) <| some (List.zip (r1 ++ (repL [(0:Int)] (w3 - ((r1).length : Int)))) (r2 ++ (repL [(0:Int)] (w3 - ((r2).length : Int)))))
noncomputable def t_rest_of (a_0 : Int) (a_1 : Int) (a_2 : Int) : Option Int :=
  bd (t_both_digits a_0 a_1 a_2) fun r1 => bd (forM (fun (a2 : (Int × Int)) (s3 : Int) => bd (t_choose_of a2.1 a2.2) fun r6 => gd (mulOk s3 r6 = true) <| gd (0 < a_0) <| lt (((s3 * r6) % a_0) : Int) fun w9 => some w9) r1 (1:Int)) fun s10 => some s10
noncomputable def t_choice_rest (a_0 : Int) (a_1 : Int) (a_2 : Int) : Option Int :=
  bd (t_want_choice a_0 a_1 a_2) fun r1 => bd (t_rest_of a_0 a_1 a_2) fun r2 => some r2
noncomputable def t_greater_places (a_0 : Int) (a_1 : Int) (a_2 : Int) : Option (List Int) :=
  bd (t_both_digits a_0 a_1 a_2) fun r1 => gd (((enumT 0 r1)).length < 16777216) <| some ((((enumT 0 r1)).filter (fun (a2 : (Int × (Int × Int))) => (decide (a2.2.1 < a2.2.2)))).map (fun (a2 : (Int × (Int × Int))) => a2.1))
noncomputable def t_choice_paper (a_0 : Int) (a_1 : Int) (a_2 : Int) : Option (Str × Int) :=
  bd (t_want_choice a_0 a_1 a_2) fun r1 => bd (t_greater_places a_0 a_1 a_2) fun r2 => bd (if (!dec (r2 = [])) = true then bd (L2.atI r2 (0:Int)) fun v4 => some (("divides" : Str), v4) else bd (t_rest_of a_0 a_1 a_2) fun r5 => some (("rest" : Str), r5)) fun v3 => some v3
noncomputable def t_is_choice_paper (a_0 : Int) (a_1 : Int) (a_2 : Int) (a_3 : (Str × Int)) : Option Bool :=
  bd (t_want_choice a_0 a_1 a_2) fun r1 => bd (t_is_tuple ((.tuple [(.str a_3.1), (.int a_3.2)]) : PyData) (2:Int)) fun r2 => bd (if (!r2) = true then some true else bd (t_is_within ((.int a_3.2) : PyData) (0:Int) (1000000000000000000:Int)) fun r4 => some (!r4)) fun v3 => if v3 = true then (some false) else if (decide (a_3.1 = ("divides" : Str))) = true then (bd (t_greater_places a_0 a_1 a_2) fun r6 => some ((r6).contains a_3.2)) else bd (if (decide (a_3.1 = ("rest" : Str))) = true then bd (if (decide ((0:Int) < a_3.2)) = true then bd (t_rest_of a_0 a_1 a_2) fun r10 => some (decide (a_3.2 = r10)) else some false) fun v9 => some v9 else some false) fun v8 => some v8
noncomputable def t_want_many (a_0 : Int) : Option Unit :=
  bd (t_is_within ((.int a_0) : PyData) (0:Int) (200:Int)) fun r1 => gd (r1 = true) <| some ()
noncomputable def t_row_rests (a_0 : Int) (a_1 : Int) : Option (List Int) :=
  bd (t_want_prime a_0) fun r1 => bd (t_want_many a_1) fun r2 => gd (ibd (a_1 + (1:Int))) <| gd (((rng1 (a_1 + (1:Int)))).length < 16777216) <| bd (mpM (fun (a4 : Int) => bd (t_rest_of a_0 a_1 a4) fun r6 => some r6) (rng1 (a_1 + (1:Int)))) fun v7 => some v7
noncomputable def t_row_left (a_0 : Int) (a_1 : Int) : Option Int :=
  bd (t_want_prime a_0) fun r1 => bd (t_want_great a_1) fun r2 => bd (t_digits_of a_0 a_1) fun r3 => bd (forM (fun (a4 : Int) (s5 : Int) => gd (mulOk s5 (a4 + (1:Int)) = true) <| lt ((s5 * (a4 + (1:Int))) : Int) fun w9 => some w9) r3 (1:Int)) fun s10 => some s10
noncomputable def t_want_some (a_0 : Int) : Option Unit :=
  bd (t_is_within ((.int a_0) : PyData) (0:Int) (200:Int)) fun r1 => gd (r1 = true) <| some ()
noncomputable def t_choose (a_0 : Int) (a_1 : Int) : Option Int :=
  bd (t_want_many a_0) fun r1 => bd (t_want_some a_1) fun r2 => bd (t_choose_of a_0 a_1) fun r3 => some r3
noncomputable def t__law_digits (a_0 : Int) (a_1 : Int) : Option (List Int) :=
  bd (forM (fun (a1 : Int) (s2 : (List Int) × Int) => bd (if (decide ((0:Int) < s2.2)) = true then gd (0 < a_0) <| gd ((s2.1).length < 16777216) <| lt ((s2.1 ++ [(s2.2 % a_0)]) : (List Int)) fun w9 => gd (divOk a_0 = true) <| lt ((s2.2 / a_0) : Int) fun w11 => some (w9, w11) else some (s2.1, s2.2)) fun v5 => some (v5.1, v5.2)) (rng1 (64:Int)) ([], a_1)) fun s12 => some s12.1
noncomputable def t__law_places (a_0 : Int) (a_1 : Int) (a_2 : Int) : Option (List (Int × Int)) :=
  bd (t__law_digits a_0 a_1) fun r1 => bd (t__law_digits a_0 a_2) fun r2 => lt ((imax ((r1).length : Int) ((r2).length : Int)) : Int) fun w3 => gd (-1000000 ≤ (w3 - ((r1).length : Int)) ∧ (w3 - ((r1).length : Int)) ≤ 1000000 ∧ ([(0:Int)]).length * ((w3 - ((r1).length : Int))).toNat ≤ 16777216) <| gd ((r1).length + ((repL [(0:Int)] (w3 - ((r1).length : Int)))).length ≤ 16777216) <| gd (-1000000 ≤ (w3 - ((r2).length : Int)) ∧ (w3 - ((r2).length : Int)) ≤ 1000000 ∧ ([(0:Int)]).length * ((w3 - ((r2).length : Int))).toNat ≤ 16777216) <| gd ((r2).length + ((repL [(0:Int)] (w3 - ((r2).length : Int)))).length ≤ 16777216) <| some (List.zip (r1 ++ (repL [(0:Int)] (w3 - ((r1).length : Int)))) (r2 ++ (repL [(0:Int)] (w3 - ((r2).length : Int)))))
noncomputable def t_carried (a_0 : Int) (a_1 : Int) (a_2 : Int) : Option (List Int) :=
  bd (t_both_digits a_0 a_1 a_2) fun r1 => bd (forM (fun (a2 : (Int × (Int × Int))) (s3 : (List Int) × Int) => gd (divOk a_0 = true) <| lt ((((a2.2.1 + a2.2.2) + s3.2) / a_0) : Int) fun w7 => gd ((s3.1).length + ((if (decide ((0:Int) < w7)) = true then [a2.1] else [])).length ≤ 16777216) <| lt ((s3.1 ++ (if (decide ((0:Int) < w7)) = true then [a2.1] else [])) : (List Int)) fun w9 => some (w9, w7)) (enumT 0 r1) ([], (0:Int))) fun s10 => some s10.1
noncomputable def t_carries (a_0 : Int) (a_1 : Int) (a_2 : Int) : Option (List Int) :=
  bd (t_want_choice a_0 a_1 a_2) fun r1 => bd (t_carried a_0 a_1 a_2) fun r2 => some r2
noncomputable def t_choice_times (a_0 : Int) (a_1 : Int) (a_2 : Int) : Option (Option Int) :=
  bd (t_want_choice a_0 a_1 a_2) fun r1 => bd (if (decide (a_2 ≤ a_1)) = true then bd (t_carried a_0 a_2 (a_1 - a_2)) fun r3 => some (some ((r3).length : Int)) else some none) fun v2 => some v2
noncomputable def t_times_in_product (a_0 : Int) (a_1 : Int) : Option Int :=
  bd (whM (fun (s1 : Int × Int) =>  some (decide ((0:Int) < s1.1))) (fun (s1 : Int × Int) => gd (divOk a_0 = true) <| lt ((s1.1 / a_0) : Int) fun w6 => lt ((s1.2 + w6) : Int) fun w7 => some (w6, w7)) nF (a_1, (0:Int))) fun s8 => some s8.2
noncomputable def t_product_times (a_0 : Int) (a_1 : Int) : Option Int :=
  bd (t_want_prime a_0) fun r1 => bd (t_want_great a_1) fun r2 => bd (t_times_in_product a_0 a_1) fun r3 => some r3
noncomputable def t_bare_product (a_0 : Int) (a_1 : Int) : Option Int :=
  bd (whM (fun (s1 : Int × Int) =>  some (decide ((0:Int) < s1.1))) (fun (s1 : Int × Int) => gd (0 < a_0) <| gd (ibd (1:Int) ∧ ibd ((s1.1 % a_0) + (1:Int))) <| bd (forM (fun (a7 : Int) (s8 : Int) => gd (mulOk s8 a7 = true) <| gd (0 < a_0) <| lt (((s8 * a7) % a_0) : Int) fun w13 => some w13) (rng2 (1:Int) ((s1.1 % a_0) + (1:Int))) s1.2) fun s14 => gd (divOk a_0 = true) <| lt ((s1.1 / a_0) : Int) fun w17 => bd (if (decide ((w17 % (2:Int)) = (1:Int))) = true then gd (0 < a_0) <| some (((0:Int) - s14) % a_0) else some s14) fun v18 => some (w17, v18)) nF (a_1, (1:Int))) fun s20 => some s20.2
noncomputable def t_product_rest (a_0 : Int) (a_1 : Int) : Option Int :=
  bd (t_want_prime a_0) fun r1 => bd (t_want_great a_1) fun r2 => bd (t_bare_product a_0 a_1) fun r3 => some r3
noncomputable def t_rest_back (a_0 : Int) (a_1 : Int) : Option Int :=
  gd (ibd a_0) <| gd (((rng1 a_0)).length < 16777216) <| bd (fmM (fun (a2 : Int) => gd (mulOk a2 a_1 = true) <| gd (0 < a_0) <| some (decide (((a2 * a_1) % a_0) = (1:Int)))) (fun (a2 : Int) =>  some a2) (rng1 a_0)) fun v6 => bd (L2.atI v6 (0:Int)) fun v7 => some v7
noncomputable def t_bare_rest (a_0 : Int) (a_1 : Int) (a_2 : Int) : Option (Option Int) :=
  bd (t_want_choice a_0 a_1 a_2) fun r1 => if (decide (a_1 < a_2)) = true then (some none) else bd (t_bare_product a_0 a_2) fun r3 => bd (t_bare_product a_0 (a_1 - a_2)) fun r4 => gd (mulOk r3 r4 = true) <| gd (0 < a_0) <| lt (((r3 * r4) % a_0) : Int) fun w7 => bd (t_bare_product a_0 a_1) fun r8 => bd (t_rest_back a_0 w7) fun r9 => gd (mulOk r8 r9 = true) <| gd (0 < a_0) <| some (some ((r8 * r9) % a_0))
noncomputable def t_choose_row (a_0 : Int) : Option (List Int) :=
  bd (t_want_many a_0) fun r1 => gd (ibd (a_0 + (1:Int))) <| gd (((rng1 (a_0 + (1:Int)))).length < 16777216) <| bd (mpM (fun (a3 : Int) => bd (t_choose_of a_0 a3) fun r5 => some r5) (rng1 (a_0 + (1:Int)))) fun v6 => some v6
noncomputable def t_row_common (a_0 : Int) : Option Int :=
  bd (t_is_within ((.int a_0) : PyData) (2:Int) (200:Int)) fun r1 => gd (r1 = true) <| gd (ibd (1:Int) ∧ ibd a_0) <| bd (forM (fun (a4 : Int) (s5 : Int) => bd (t_choose_of a_0 a4) fun r8 => bd (whM (fun (s9 : Int × Int) =>  some (decide ((0:Int) < s9.2))) (fun (s9 : Int × Int) => gd (0 < s9.2) <| lt ((s9.1 % s9.2) : Int) fun w14 => some (s9.2, w14)) nF (s5, r8)) fun s15 => some s15.1) (rng2 (1:Int) a_0) a_0) fun s16 => some s16
end Pd


/-! typed functions that many laws share -/
namespace Pd
open PySem PySem.Spec PyProof.Rows L2
noncomputable def t_want_lot_numbers (a_0 : (Sq Int)) : Option Unit :=
  bd (t_is_list (enc a_0)) fun r1 => gd (r1 = true) <| gd ((a_0.l).length < 16777216) <| bd (mpM (fun (a3 : Int) => bd (t_is_integer ((.int a3) : PyData)) fun r5 => some r5) a_0.l) fun v6 => gd (((v6).all id) = true) <| bd (whM (fun (s8 : Int) =>  some ((decide (s8 < (a_0.l.length : Int))) && (decide (s8 < (512:Int))))) (fun (s8 : Int) => gd (mulOk (2:Int) s8 = true) <| lt (((2:Int) * s8) : Int) fun w13 => some w13) nF (1:Int)) fun s14 => gd (s14 = (a_0.l.length : Int)) <| some ()
noncomputable def t_over_lots (a_0 : (Sq Int)) (a_1 : Int) : Option (List Int) :=
  bd (whM (fun (s1 : (List Int) × Int) =>  some (decide (s1.2 < ((s1.1).length : Int)))) (fun (s1 : (List Int) × Int) => gd (((enumT 0 s1.1)).length < 16777216) <| bd (mpM (fun (a5 : (Int × Int)) => gd (divOk s1.2 = true) <| bd (if (decide (((a5.1 / s1.2) % (2:Int)) = (1:Int))) = true then bd (L2.atI s1.1 (a5.1 - s1.2)) fun v9 => gd (mulOk a_1 v9 = true) <| some (a_1 * v9) else some (0:Int)) fun v8 => some (a5.2 + v8)) (enumT 0 s1.1)) fun v11 => gd (mulOk (2:Int) s1.2 = true) <| lt (((2:Int) * s1.2) : Int) fun w13 => some (v11, w13)) nF (a_0.l, (1:Int))) fun s14 => some s14.1
noncomputable def t_lots_summed (a_0 : (Sq Int)) : Option (List Int) :=
  bd (t_want_lot_numbers a_0) fun r1 => bd (t_over_lots a_0 (1:Int)) fun r2 => some r2
noncomputable def t_lots_taken_back (a_0 : (Sq Int)) : Option (List Int) :=
  bd (t_want_lot_numbers a_0) fun r1 => bd (t_over_lots a_0 (-1:Int)) fun r2 => some r2
end Pd


namespace PdK68
open PySem PySem.Spec PyProof.Rows L2 Pd
noncomputable def t__law_pot (a_0 : Scr) (a_1 : Int) : Option Pot :=
  bd (if (decide (a_1 < (a_0.l.length : Int))) = true then bd (L2.atI a_0.l a_1) fun v2 => some (iabs v2) else gd (mulOk (2939:Int) a_1 = true) <| some ((((2939:Int) * a_1) + (2179:Int)) + (((cutD a_0.l none (some (1:Int)))).sum % (1000003:Int)))) fun v1 => gd (mulOk (v1 % (2147483549:Int)) (40253:Int) = true) <| gd (mulOk (9319:Int) a_1 = true) <| some (Pot.mk ((imax (0:Int) (v1 - (1000000000000000000:Int)))) (((((((v1 % (2147483549:Int)) * (40253:Int)) + ((9319:Int) * a_1)) + (71:Int)) % (2147483563:Int)) + (1:Int))))
noncomputable def t__law_draw (a_0 : Pot) (a_1 : Int) : Option (Int × Pot) := drawT 40692 9319 2147483549 43 a_0 a_1
noncomputable def t__law_pick (a_0 : Pot) (a_1 : (List Int)) : Option (Int × Pot) :=
  bd (t__law_draw a_0 ((a_1).length : Int)) fun r1 => bd (L2.atI a_1 r1.1) fun v2 => some (v2, r1.2)
noncomputable def t__law_numbers (a_0 : Pot) (a_1 : Int) : Option ((List Int) × Pot) :=
  bd (t__law_pick a_0 ([(2:Int), (10:Int), (1000000:Int), (10000000000000000000000000:Int)])) fun r1 => gd (ibd a_1) <| gd (((rng1 a_1)).length < 16777216) <| bd (mpS (fun (a3 : Int) (s5 : Pot) => gd (mulOk (2:Int) r1.1 = true) <| bd (t__law_draw s5 ((2:Int) * r1.1)) fun r7 => some ((r7.1 - r1.1), r7.2)) (rng1 a_1) r1.2) fun v8 => some (v8.1, v8.2)
noncomputable def t__law_doubled (a_0 : Int) : Option Int :=
  gd (ibd a_0) <| bd (forM (fun (a2 : Int) (s3 : Int) => gd (mulOk (2:Int) s3 = true) <| lt (((2:Int) * s3) : Int) fun w7 => some w7) (rng1 a_0) (1:Int)) fun s8 => some s8
noncomputable def t__law_lot (a_0 : Int) (a_1 : Int) : Option (Tp Int) :=
  gd (ibd a_0) <| bd (forM (fun (a2 : Int) (s3 : (List Int) × Int) => gd ((s3.1).length + ((if (decide ((s3.2 % (2:Int)) = (1:Int))) = true then [a2] else [])).length ≤ 16777216) <| lt ((s3.1 ++ (if (decide ((s3.2 % (2:Int)) = (1:Int))) = true then [a2] else [])) : (List Int)) fun w7 => lt ((s3.2 / (2:Int)) : Int) fun w8 => some (w7, w8)) (rng1 a_0) ([], a_1)) fun s9 => some (Tp.mk s9.1)
noncomputable def t__law_small_right (a_0 : Pot) (a_1 : Int) : Option (Yes × Pot) :=
  bd (t__law_draw a_0 (a_1 + (1:Int))) fun r1 => bd (t__law_doubled r1.1) fun r2 => bd (t__law_numbers r1.2 r2) fun r3 => gd (reprOk (.list (encL r3.1)) = true) <| gd (ibd ((r3.1).length : Int)) <| gd (((rng1 ((r3.1).length : Int))).length < 16777216) <| bd (mpM (fun (a6 : Int) => bd (t__law_lot r1.1 a6) fun r8 => some r8) (rng1 ((r3.1).length : Int))) fun v9 => lt ((PyData.shown (.list (encL r3.1))) : Str) fun w10 => bd (forM (fun (a11 : (Tp Int)) (s12 : (List Int)) => gd (((enumT 0 v9)).length < 16777216) <| bd (fmM (fun (a15 : (Int × (Tp Int))) => gd ((a15.2.l).length < 16777216) <| some ((((a15.2.l).map (fun (a17 : Int) => ((a11.l).contains a17)))).all id)) (fun (a15 : (Int × (Tp Int))) => bd (L2.atI r3.1 a15.1) fun v19 => some v19) (enumT 0 v9)) fun v20 => gd ((s12).length < 16777216) <| lt ((s12 ++ [(v20).sum]) : (List Int)) fun w22 => some w22) v9 []) fun s23 => bd (t_lots_summed (Sq.mk false r3.1)) fun r25 => bd (t_lots_summed (Sq.mk true (Tp.mk r3.1).l)) fun r26 => gd (r25 = s23 ∧ r26 = s23) <| gd (reprOk (PyData.list [(.list (encL s23)), (.list (encL s23))]) = true) <| gd ((encL r25).length < 16777216) <| lt (((encL r25) ++ [.none]) : (List PyData)) fun w30 => bd (t_lots_taken_back (Sq.mk false s23)) fun r31 => bd (t_lots_taken_back (Sq.mk true (Tp.mk s23).l)) fun r32 => gd (r31 = r3.1 ∧ r32 = r3.1) <| gd (reprOk (PyData.list [(.list (encL r3.1)), (.list (encL r3.1))]) = true) <| gd ((encL r31).length < 16777216) <| lt (((encL r31) ++ [.none]) : (List PyData)) fun w36 => bd (t_lots_taken_back (Sq.mk false s23)) fun r37 => gd (r37 = r3.1) <| gd (reprOk (.list (encL r3.1)) = true) <| bd (t__law_draw r3.2 ((r3.1).length : Int)) fun r40 => gd (ibd ((r3.1).length : Int)) <| gd (((rng1 ((r3.1).length : Int))).length < 16777216) <| lt ((((rng1 ((r3.1).length : Int))).map (fun (a42 : Int) => (if (decide (a42 = r40.1)) = true then (1:Int) else (0:Int)))) : (List Int)) fun w44 => gd ((v9).length < 16777216) <| bd (mpM (fun (a45 : (Tp Int)) => bd (L2.atI v9 r40.1) fun v47 => gd ((v47.l).length < 16777216) <| bd (if ((((v47.l).map (fun (a48 : Int) => ((a45.l).contains a48)))).all id) = true then bd (L2.atI v9 r40.1) fun v51 => some (if (decide ((((a45.l.length : Int) - (v51.l.length : Int)) % (2:Int)) = (0:Int))) = true then (1:Int) else (-1:Int)) else some (0:Int)) fun v50 => some v50) v9) fun v52 => bd (t_lots_taken_back (Sq.mk false w44)) fun r53 => gd (r53 = v52) <| bd (t_lots_summed (Sq.mk false v52)) fun r55 => gd (r55 = w44) <| gd (reprOk (.list (encL r3.1)) = true) <| gd ((PyData.shown (.list (encL r3.1))) = w10) <| some (Yes.yes, r40.2)
noncomputable def t__law_mixed (a_0 : Pot) (a_1 : (List Int)) : Option ((List Int) × Pot) :=
  bd (whM (fun (s1 : Pot × (List Int) × (List Int)) =>  some (!dec (s1.2.1 = []))) (fun (s1 : Pot × (List Int) × (List Int)) => bd (t__law_draw s1.1 ((s1.2.1).length : Int)) fun r5 => bd (popAt s1.2.1 r5.1) fun v6 => gd ((s1.2.2).length < 16777216) <| lt ((s1.2.2 ++ [v6.1]) : (List Int)) fun w8 => some (r5.2, (v6.2, w8))) nF (a_0, (a_1, []))) fun s9 => some (s9.2.2, s9.1)
noncomputable def t__law_marks_right (a_0 : Pot) : Option (Yes × Pot) :=
  bd (t__law_draw a_0 (5:Int)) fun r1 => gd (ibd r1.1) <| gd ((rng1 r1.1).length ≤ 16777216) <| bd (t__law_mixed r1.2 (rng1 r1.1)) fun r4 => bd (t__law_doubled r1.1) fun r5 => gd (ibd r5) <| gd (((rng1 r5)).length < 16777216) <| bd (mpM (fun (a7 : Int) => bd (t__law_lot r1.1 a7) fun r9 => some r9) (rng1 r5)) fun v10 => bd (t__law_draw r4.2 (20:Int)) fun r11 => gd (ibd r11.1) <| gd (((rng1 r11.1)).length < 16777216) <| bd (mpS (fun (a13 : Int) (s15 : Pot) => bd (t__law_draw s15 r5) fun r16 => bd (L2.atI v10 r16.1) fun v17 => some (v17, r16.2)) (rng1 r11.1) r11.2) fun v18 => gd ((v10).length < 16777216) <| lt (((v10).map (fun (a19 : (Tp Int)) => (((v18.1).countP fun z => dec (z = a19) : Nat) : Int))) : (List Int)) fun w21 => gd ((v10).length < 16777216) <| bd (mpM (fun (a22 : (Tp Int)) => gd ((v18.1).length < 16777216) <| bd (fmM (fun (a24 : (Tp Int)) => gd ((a24.l).length < 16777216) <| some ((((a24.l).map (fun (a26 : Int) => ((a22.l).contains a26)))).all id)) (fun (a24 : (Tp Int)) =>  some a24) v18.1) fun v28 => some ((v28).length : Int)) v10) fun v29 => bd (t_lots_summed (Sq.mk false w21)) fun r30 => gd (r30 = v29) <| bd (t_lots_taken_back (Sq.mk false v29)) fun r32 => gd (r32 = w21) <| gd ((v10).length < 16777216) <| bd (mpM (fun (a34 : (Tp Int)) => gd ((a34.l).length < 16777216) <| bd (mpM (fun (a36 : Int) => bd (L2.atI r4.1 a36) fun v38 => some v38) a34.l) fun v39 => bd ((v10).findIdx? fun z => dec (z = (Tp.mk (sortI v39)))) fun v40 => some ((v40 : Nat) : Int)) v10) fun v41 => gd (-1000000 ≤ r5 ∧ r5 ≤ 1000000 ∧ ([(0:Int)]).length * (r5).toNat ≤ 16777216) <| lt ((repL [(0:Int)] r5) : (List Int)) fun w43 => bd (forM (fun (a44 : (Int × Int)) (s45 : (List Int)) => bd (L2.atI v41 a44.1) fun v48 => bd (setAt s45 v48 a44.2) fun v49 => some v49) (enumT 0 w21) w43) fun s50 => bd (t_lots_summed (Sq.mk false s50)) fun r53 => gd (ibd r5) <| gd (((rng1 r5)).length < 16777216) <| bd (mpM (fun (a55 : Int) => bd (L2.atI v41 a55) fun v57 => bd (L2.atI r53 v57) fun v58 => some v58) (rng1 r5)) fun v59 => gd (v59 = v29) <| some (Yes.yes, v18.2)
noncomputable def t__law_great_right (a_0 : Pot) : Option (Yes × Pot) :=
  bd (t__law_draw a_0 (3:Int)) fun r1 => bd (t__law_doubled ((7:Int) + r1.1)) fun r2 => bd (t__law_numbers r1.2 r2) fun r3 => bd (t_lots_summed (Sq.mk false r3.1)) fun r4 => bd (L2.atI r4 (-1:Int)) fun v5 => gd (v5 = (r3.1).sum) <| bd (L2.atI r4 (0:Int)) fun v7 => bd (L2.atI r3.1 (0:Int)) fun v8 => gd (v7 = v8) <| bd (t_lots_taken_back (Sq.mk false r4)) fun r10 => gd (r10 = r3.1) <| bd (t_lots_taken_back (Sq.mk false r3.1)) fun r12 => bd (t_lots_summed (Sq.mk false r12)) fun r13 => gd (r13 = r3.1) <| some (Yes.yes, r3.2)
noncomputable def t_law (a_0 : Scr) : Option Yes :=
  bd (t__law_pot a_0 (0:Int)) fun r1 => bd (t__law_pot a_0 (1:Int)) fun r2 => bd (t__law_small_right r1 (4:Int)) fun r3 => bd (t__law_small_right r2 (6:Int)) fun r4 => bd (t__law_marks_right r3.2) fun r5 => bd (t__law_great_right r4.2) fun r6 => some Yes.yes
end PdK68

/-! plain sums, choices, loops -/
namespace Pd
open PySem PySem.Spec PyProof.Rows L2
def ch : Nat → Nat → Nat
  | _, 0 => 1
  | 0, _ + 1 => 0
  | n + 1, k + 1 => ch n k + ch n (k + 1)
theorem ch_zero (n : Nat) : ch n 0 = 1 := by cases n <;> rfl
theorem ch_gt : ∀ {n k : Nat}, n < k → ch n k = 0
  | 0, k + 1, _ => rfl
  | n + 1, k + 1, h => by
    rw [ch, ch_gt (by omega), ch_gt (by omega)]
theorem ch_abs : ∀ n k : Nat, (k + 1) * ch (n + 1) (k + 1) = (n + 1) * ch n k
  | 0, 0 => rfl
  | 0, k + 1 => by
    show (k + 1 + 1) * (0 + 0) = (0 + 1) * 0
    simp
  | n + 1, 0 => by
    have h := ch_abs n 0
    have e1 : ch (n + 2) 1 = ch (n + 1) 0 + ch (n + 1) 1 := rfl
    have e2 : ch (n + 1) 0 = 1 := rfl
    have e3 : ch n 0 = 1 := ch_zero n
    rw [e3] at h
    show (0 + 1) * ch (n + 2) 1 = (n + 1 + 1) * ch (n + 1) 0
    rw [e1, e2]
    have h' : (0 + 1) * ch (n + 1) 1 = (n + 1) * 1 := h
    omega
  | n + 1, k + 1 => by
    have h1 := ch_abs n k
    have h2 := ch_abs n (k + 1)
    have e1 : ch (n + 2) (k + 2) = ch (n + 1) (k + 1) + ch (n + 1) (k + 2) := rfl
    have e2 : ch (n + 1) (k + 1) = ch n k + ch n (k + 1) := rfl
    rw [e1]
    calc (k + 1 + 1) * (ch (n + 1) (k + 1) + ch (n + 1) (k + 2)) = ch (n + 1) (k + 1) + (k + 1) * ch (n + 1) (k + 1) + (k + 1 + 1) * ch (n + 1) (k + 1 + 1) := by
          rw [Nat.mul_add, Nat.add_mul (k + 1) 1 (ch (n + 1) (k + 1)), Nat.one_mul, Nat.add_comm ((k + 1) * ch (n + 1) (k + 1))]
      _ = ch (n + 1) (k + 1) + (n + 1) * ch n k + (n + 1) * ch n (k + 1) := by rw [h1, h2]
      _ = (n + 1 + 1) * ch (n + 1) (k + 1) := by
          rw [Nat.add_assoc, ← Nat.mul_add, ← e2, Nat.add_mul (n + 1) 1, Nat.one_mul, Nat.add_comm]
theorem ch_step (n k : Nat) : ch n (k + 1) * (k + 1) = ch n k * (n - k) := by
  by_cases h : n < k
  · rw [ch_gt h, ch_gt (by omega)]
    simp
  · have h1 := ch_abs n k
    have e2 : ch (n + 1) (k + 1) = ch n k + ch n (k + 1) := rfl
    rw [e2, Nat.mul_add] at h1
    have e3 : (n + 1) * ch n k = (k + 1) * ch n k + (n - k) * ch n k := by
      rw [← Nat.add_mul]
      congr 1
      omega
    rw [Nat.mul_comm, Nat.mul_comm (ch n k)]
    omega
theorem ch_self : ∀ n : Nat, ch n n = 1
  | 0 => rfl
  | n + 1 => by
    rw [ch, ch_self n, ch_gt (by omega)]
theorem ch_symm : ∀ {n k : Nat}, k ≤ n → ch n k = ch n (n - k)
  | 0, 0, _ => rfl
  | n + 1, 0, _ => by rw [ch_zero, Nat.sub_zero, ch_self]
  | n + 1, k + 1, h => by
    by_cases hk : k = n
    · subst hk
      rw [ch_self, Nat.sub_self, ch_zero]
    · have e1 : n + 1 - (k + 1) = (n - k - 1) + 1 := by omega
      rw [e1, ch, ch, ch_symm (show k ≤ n by omega), ch_symm (show k + 1 ≤ n by omega)]
      rw [show n - (k + 1) = n - k - 1 by omega, show n - k - 1 + 1 = n - k by omega, Nat.add_comm]
theorem ch_le : ∀ n k : Nat, ch n k ≤ n ^ k
  | n, 0 => by rw [ch_zero, Nat.pow_zero]; exact Nat.le_refl _
  | n, k + 1 => by
    have h1 := ch_step n k
    have h2 := ch_le n k
    have h3 : ch n (k + 1) ≤ ch n (k + 1) * (k + 1) := Nat.le_mul_of_pos_right _ (Nat.succ_pos _)
    calc ch n (k + 1) ≤ ch n k * (n - k) := by rw [← h1]; exact h3
      _ ≤ n ^ k * n := Nat.mul_le_mul h2 (Nat.sub_le _ _)
      _ = n ^ (k + 1) := by rw [Nat.pow_succ]
theorem pow_lt_bits {n : Nat} (h : n < 2 ^ 64) (k : Nat) : n ^ k ≤ 2 ^ (64 * k) := by
  rw [Nat.pow_mul]
  exact Nat.pow_le_pow_left (Nat.le_of_lt h) k
def sZ (f : Nat → Int) : Nat → Int
  | 0 => 0
  | m + 1 => sZ f m + f m
theorem ch_stepZ (n k : Nat) : (ch n (k + 1) : Int) * ((k : Int) + 1) = (ch n k : Int) * ((n : Int) - k) := by
  by_cases h : k ≤ n
  · have h1 := ch_step n k
    have e : ((n - k : Nat) : Int) = (n : Int) - k := by omega
    rw [← e, ← Int.natCast_mul, ← h1, Int.natCast_mul]
    rfl
  · rw [ch_gt (by omega), ch_gt (by omega)]
    simp
theorem sZ_congr {f g : Nat → Int} : ∀ {m : Nat}, (∀ j, j < m → f j = g j) → sZ f m = sZ g m
  | 0, _ => rfl
  | m + 1, h => by
    show sZ f m + f m = sZ g m + g m
    rw [sZ_congr fun j hj => h j (by omega), h m (by omega)]
theorem sZ_add {f g : Nat → Int} : ∀ (m : Nat), sZ (fun j => f j + g j) m = sZ f m + sZ g m
  | 0 => rfl
  | m + 1 => by
    show sZ (fun j => f j + g j) m + (f m + g m) = sZ f m + f m + (sZ g m + g m)
    rw [sZ_add m]
    omega
theorem sZ_zero {f : Nat → Int} : ∀ {m : Nat}, (∀ j, j < m → f j = 0) → sZ f m = 0
  | 0, _ => rfl
  | m + 1, h => by
    show sZ f m + f m = 0
    rw [sZ_zero fun j hj => h j (by omega), h m (by omega)]
    rfl

/-! ### loops over ranges, lists -/
section
variable {α β S : Type}
theorem rng1_nat (n : Nat) : rng1 (n : Int) = (List.range n).map fun (k : Nat) => (k : Int) := by
  unfold rng1
  rw [Int.toNat_natCast]
theorem rng1_len (n : Nat) : (rng1 (n : Int)).length = n := by
  rw [rng1_nat]
  simp
theorem mpM_of {f : α → Option β} {g : α → β} : ∀ {xs : List α}, (∀ a ∈ xs, f a = some (g a)) → mpM f xs = some (xs.map g)
  | [], _ => rfl
  | x :: xs, h => by
    show bd (f x) (fun b => bd (mpM f xs) fun bs => some (b :: bs)) = _
    rw [h x List.mem_cons_self, mpM_of fun a ha => h a (List.mem_cons_of_mem _ ha)]
    rfl
theorem mpM_rng {f : Int → Option β} {g : Nat → β} {n : Nat} (h : ∀ i, i < n → f (i : Int) = some (g i)) : mpM f (rng1 (n : Int)) = some ((List.range n).map g) := by
  have z := mpM_of (f := f) (g := fun i => g i.toNat) (xs := rng1 (n : Int)) fun a ha => by
    rw [rng1_nat, List.mem_map] at ha
    obtain ⟨i, hi, e⟩ := ha
    rw [List.mem_range] at hi
    subst e
    rw [h i hi, Int.toNat_natCast]
  rw [z, rng1_nat, List.map_map]
  congr 1
theorem forM_append {f : α → S → Option S} : ∀ (xs ys : List α) (s : S), forM f (xs ++ ys) s = bd (forM f xs s) (forM f ys)
  | [], ys, s => rfl
  | x :: xs, ys, s => by
    show bd (f x s) (forM f (xs ++ ys)) = bd (bd (f x s) (forM f xs)) (forM f ys)
    cases f x s with
    | none => rfl
    | some s' => exact forM_append xs ys s'
/-- a loop over range(n) by what it makes -/
theorem forM_rng {f : Int → S → Option S} (st : Nat → S) : ∀ {n : Nat}, (∀ i, i < n → f (i : Int) (st i) = some (st (i + 1))) → forM f (rng1 (n : Int)) (st 0) = some (st n)
  | 0, _ => rfl
  | n + 1, h => by
    rw [rng1_nat, List.range_succ, List.map_append, forM_append, ← rng1_nat, forM_rng st fun i hi => h i (by omega)]
    show bd (f (n : Int) (st n)) (forM f []) = _
    rw [h n (by omega)]
    rfl
/-- a loop by what stays so -/
theorem forM_inv {f : α → S → Option S} (I : S → Prop) : ∀ {xs : List α} {s : S}, (∀ a ∈ xs, ∀ s, I s → Ok (f a s) I) → I s → Ok (forM f xs s) I
  | [], s, _, hi => ⟨s, rfl, hi⟩
  | x :: xs, s, h, hi => by
    show Ok (bd (f x s) (forM f xs)) I
    exact (h x List.mem_cons_self s hi).bd fun a ha => forM_inv I (fun b hb => h b (List.mem_cons_of_mem _ hb)) ha
theorem mpS_inv {f : α → S → Option (β × S)} (I : S → Prop) (P : β → Prop) : ∀ {xs : List α} {s : S}, (∀ a ∈ xs, ∀ s, I s → Ok (f a s) fun r => P r.1 ∧ I r.2) → I s → Ok (mpS f xs s) fun r => (r.1.length = xs.length ∧ ∀ b ∈ r.1, P b) ∧ I r.2
  | [], s, _, hi => ⟨_, rfl, ⟨rfl, fun b hb => nomatch hb⟩, hi⟩
  | x :: xs, s, h, hi => by
    show Ok (bd (f x s) fun b => bd (mpS f xs b.2) fun bs => some (b.1 :: bs.1, bs.2)) _
    refine (h x List.mem_cons_self s hi).bd fun a ha => (mpS_inv I P (fun b hb => h b (List.mem_cons_of_mem _ hb)) ha.2).bd fun r hr => Ok.ret ⟨⟨by simp [hr.1.1], fun b hb => ?_⟩, hr.2⟩
    rcases List.mem_cons.mp hb with e | e
    · rw [e]
      exact ha.1
    · exact hr.1.2 b e
theorem mpM_inv {f : α → Option β} (P : α → β → Prop) : ∀ {xs : List α}, (∀ a ∈ xs, Ok (f a) (P a)) → Ok (mpM f xs) fun r => r.length = xs.length ∧ ∀ b ∈ r, ∃ a ∈ xs, P a b
  | [], _ => ⟨[], rfl, rfl, fun b hb => nomatch hb⟩
  | x :: xs, h => by
    show Ok (bd (f x) fun b => bd (mpM f xs) fun bs => some (b :: bs)) _
    refine (h x List.mem_cons_self).bd fun a ha => (mpM_inv P fun b hb => h b (List.mem_cons_of_mem _ hb)).bd fun r hr => Ok.ret ⟨by simp [hr.1], fun b hb => ?_⟩
    rcases List.mem_cons.mp hb with e | e
    · rw [e]
      exact ⟨x, List.mem_cons_self, ha⟩
    · obtain ⟨c, hc, p⟩ := hr.2 b e
      exact ⟨c, List.mem_cons_of_mem _ hc, p⟩
def mi (f : Nat → Int → Int) : Nat → List Int → List Int
  | _, [] => []
  | k, x :: xs => f k x :: mi f (k + 1) xs
theorem mi_len (f : Nat → Int → Int) : ∀ (k : Nat) (xs : List Int), (mi f k xs).length = xs.length
  | _, [] => rfl
  | k, x :: xs => by
    rw [mi, List.length_cons, List.length_cons, mi_len f (k + 1) xs]
theorem mi_map {f : Nat → Int → Int} {g : Int × Int → Int} (h : ∀ (k : Nat) (v : Int), g ((k : Int), v) = f k v) : ∀ (xs : List Int) (k : Nat), (enumT k xs).map g = mi f k xs
  | [], _ => rfl
  | x :: xs, k => by
    show g ((k : Int), x) :: (enumT (k + 1) xs).map g = _
    rw [h, mi_map h xs (k + 1), mi]
theorem enumT_mem {α : Type} : ∀ {xs : List α} {k : Nat} {d : Int × α}, d ∈ enumT k xs → ∃ (i : Nat), d.1 = ((k + i : Nat) : Int) ∧ xs[i]? = some d.2
  | [], k, d, h => nomatch h
  | x :: xs, k, d, h => by
    rcases List.mem_cons.mp (show d ∈ ((k : Int), x) :: enumT (k + 1) xs from h) with z | z
    · subst z
      exact ⟨0, rfl, rfl⟩
    · obtain ⟨i, e, h2⟩ := enumT_mem z
      exact ⟨i + 1, by rw [e]; congr 1; omega, h2⟩
theorem mpM_enum {f : Int × Int → Option Int} {g : Nat → Int → Int} {xs : List Int} (h : ∀ (k : Nat) (v : Int), xs[k]? = some v → f ((k : Int), v) = some (g k v)) : mpM f (enumT 0 xs) = some (mi g 0 xs) := by
  have z := mpM_of (f := f) (g := fun d => g d.1.toNat d.2) (xs := enumT 0 xs) fun a ha => by
    obtain ⟨i, e, h2⟩ := enumT_mem ha
    obtain ⟨a1, a2⟩ := a
    dsimp only at e h2
    rw [Nat.zero_add] at e
    subst e
    rw [h i a2 h2, Int.toNat_natCast]
  rw [z, mi_map (f := g) (fun k v => by dsimp only; rw [Int.toNat_natCast])]
end
theorem ibd_nat {n : Nat} (h : n ≤ 1000000000000) : ibd (n : Int) := ⟨by omega, by omega⟩
theorem at_nat {α : Type} {xs : List α} {i : Nat} {v : α} (h : xs[i]? = some v) : L2.atI xs (i : Int) = some v := L2.atI_nat h
theorem at_0 {α : Type} {x : α} {xs : List α} : L2.atI (x :: xs) 0 = some x := L2.atI_nat (j := 0) rfl
theorem at_1 {α : Type} {x y : α} {xs : List α} : L2.atI (x :: y :: xs) 1 = some y := L2.atI_nat (j := 1) rfl
theorem at_last {α : Type} (xs : List α) (x : α) : L2.atI (xs ++ [x]) (-1) = some x := L2.atI_last xs x
theorem cut_take {α : Type} (xs : List α) (n : Nat) : cutD xs none (some (n : Int)) = xs.take n := by
  unfold cutD
  rw [HT.sIx_none, HT.sIx_nat, List.drop_zero, Nat.sub_zero]
  by_cases h : n ≤ xs.length
  · rw [Nat.min_eq_left h]
  · rw [Nat.min_eq_right (by omega), List.take_of_length_le (by omega), List.take_of_length_le (by omega)]
theorem cut_drop {α : Type} (xs : List α) (n : Nat) : cutD xs (some (n : Int)) none = xs.drop n := by
  unfold cutD
  rw [HT.sIx_none, HT.sIx_nat]
  by_cases h : n ≤ xs.length
  · rw [Nat.min_eq_left h, List.take_of_length_le (by rw [List.length_drop]; omega)]
  · rw [Nat.min_eq_right (by omega), List.drop_of_length_le (by omega), List.drop_of_length_le (by omega), List.take_nil]
theorem nat_of {v m : Int} (h : 0 ≤ v) (h2 : v < m) : ∃ k : Nat, v = (k : Int) ∧ (k : Int) < m := by
  obtain ⟨k, e⟩ := Int.eq_ofNat_of_zero_le h
  exact ⟨k, e, by omega⟩
/-! ### written forms -/
class Sh (α : Type) [Enc α] where
  m : Nat
  lay : ∀ a : α, (enc a).canLay0 = true
  dep : Nat
  dp : ∀ a : α, (enc a).depth ≤ dep
theorem log2_le' {n b : Nat} (h : n < 2 ^ b) : n.log2 ≤ b := by
  by_cases h0 : n = 0
  · subst h0
    simp
  · exact Nat.le_of_lt ((Nat.log2_lt h0).mpr h)
/-- data that can be written: how long at most -/
structure Wr (d : PyData) (m : Nat) : Prop where
  lay : d.canLay0 = true
  shw : d.showable = true
  dep : d.depth ≤ 40
  siz : wsz d ≤ m
theorem Wr.ok {d : PyData} {m : Nat} (h : Wr d m) (hm : m ≤ 16777216) : reprOk d = true := by
  unfold reprOk
  rw [h.lay, h.shw, decide_eq_true (by have := h.dep; omega), decide_eq_true (by have := h.siz; omega)]
  rfl
theorem Wr.int {i : Int} (h : i.natAbs < 2 ^ 1000) : Wr (.int i) 1003 := by
  have h2 := log2_le' h
  refine ⟨rfl, ?_, ?_, ?_⟩
  · rw [PyData.showable]
    exact decide_eq_true (by omega)
  · rw [PyData.depth]
    omega
  · rw [wsz]
    omega
theorem Wr.bool {b : Bool} : Wr (.bool b) 5 := ⟨rfl, rfl, by rw [PyData.depth]; omega, by rw [wsz]; omega⟩
theorem Wr.none : Wr .none 5 := ⟨rfl, rfl, by rw [PyData.depth]; omega, by rw [wsz]; omega⟩
theorem wr_all {ds : List PyData} {m : Nat} (h : ∀ d ∈ ds, d.canLay0 = true ∧ d.showable = true ∧ d.depth ≤ 39 ∧ wsz d ≤ m) : PyData.canLayAll0 ds = true ∧ PyData.showableAll ds = true ∧ PyData.depthAll ds ≤ 39 ∧ wszs ds ≤ (m + 2) * ds.length := by
  induction ds with
  | nil => exact ⟨rfl, rfl, Nat.zero_le _, by simp [wszs]⟩
  | cons d ds ih =>
    obtain ⟨a, b, c, e⟩ := h d List.mem_cons_self
    obtain ⟨a', b', c', e'⟩ := ih fun x hx => h x (List.mem_cons_of_mem _ hx)
    refine ⟨?_, ?_, ?_, ?_⟩
    · rw [PyData.canLayAll0, a, a']
      rfl
    · rw [PyData.showableAll, b, b']
      rfl
    · rw [PyData.depthAll]
      omega
    · rw [wszs, List.length_cons, Nat.mul_add]
      omega
/-- as `Wr`, of a told depth -/
structure WrD (d : PyData) (k m : Nat) : Prop where
  lay : d.canLay0 = true
  shw : d.showable = true
  dep : d.depth ≤ k
  siz : wsz d ≤ m
theorem WrD.ok {d : PyData} {k m : Nat} (h : WrD d k m) (hk : k ≤ 40 := by decide) (hm : m ≤ 16777216 := by decide) : reprOk d = true := by
  unfold reprOk
  rw [h.lay, h.shw, decide_eq_true (by have := h.dep; omega), decide_eq_true (by have := h.siz; omega)]
  rfl
theorem WrD.int {i : Int} (h : i.natAbs < 2 ^ 1000) : WrD (.int i) 0 1003 := by
  have z := Wr.int h
  exact ⟨z.lay, z.shw, by rw [PyData.depth]; omega, z.siz⟩
theorem WrD.intB {i : Int} {b : Nat} (h : i.natAbs < 2 ^ b) (hb : b < 1900 := by decide) : WrD (.int i) 0 (b + 3) := by
  have h2 := log2_le' h
  refine ⟨rfl, ?_, ?_, ?_⟩
  · rw [PyData.showable]
    exact decide_eq_true (by omega)
  · rw [PyData.depth]
    omega
  · rw [wsz]
    omega
theorem WrD.bool {b : Bool} : WrD (.bool b) 0 5 := ⟨rfl, rfl, by rw [PyData.depth]; omega, by rw [wsz]; omega⟩
theorem WrD.none : WrD .none 0 5 := ⟨rfl, rfl, by rw [PyData.depth]; omega, by rw [wsz]; omega⟩
theorem WrD.mono {d : PyData} {k k' m m' : Nat} (h : WrD d k m) (hk : k ≤ k') (hm : m ≤ m') : WrD d k' m' := ⟨h.lay, h.shw, by have := h.dep; omega, by have := h.siz; omega⟩
theorem WrD.seq {ds : List PyData} {k m n : Nat} (h : ∀ d ∈ ds, WrD d k m) (hk : k ≤ 39) (hn : ds.length ≤ n) : PyData.canLayAll0 ds = true ∧ PyData.showableAll ds = true ∧ PyData.depthAll ds ≤ k ∧ wszs ds ≤ (m + 2) * n := by
  obtain ⟨a, b, c, e⟩ := wr_all (ds := ds) (m := m) fun d hd => ⟨(h d hd).lay, (h d hd).shw, by have := (h d hd).dep; omega, (h d hd).siz⟩
  refine ⟨a, b, ?_, Nat.le_trans e (Nat.mul_le_mul_left _ hn)⟩
  clear a b c e hn
  induction ds with
  | nil => exact Nat.zero_le _
  | cons d ds ih =>
    have := (h d List.mem_cons_self).dep
    have := ih fun x hx => h x (List.mem_cons_of_mem _ hx)
    rw [PyData.depthAll]
    omega
theorem WrD.list {ds : List PyData} {k m n : Nat} (h : ∀ d ∈ ds, WrD d k m) (hn : ds.length ≤ n) (hk : k ≤ 39 := by decide) : WrD (.list ds) (k + 1) ((m + 2) * n + 3) := by
  obtain ⟨a, b, c, e⟩ := WrD.seq h hk hn
  exact ⟨by rw [PyData.canLay0]; exact a, by rw [PyData.showable]; exact b, by rw [PyData.depth]; omega, by rw [wsz]; omega⟩
theorem WrD.tuple {ds : List PyData} {k m n : Nat} (h : ∀ d ∈ ds, WrD d k m) (hn : ds.length ≤ n) (hk : k ≤ 39 := by decide) : WrD (.tuple ds) (k + 1) ((m + 2) * n + 3) := by
  obtain ⟨a, b, c, e⟩ := WrD.seq h hk hn
  exact ⟨by rw [PyData.canLay0]; exact a, by rw [PyData.showable]; exact b, by rw [PyData.depth]; omega, by rw [wsz]; omega⟩
theorem WrD.ints {xs : List Int} {b n : Nat} (h : ∀ x ∈ xs, x.natAbs < 2 ^ b) (hn : xs.length ≤ n) (hb : b < 1900 := by decide) : WrD (.list (encL xs)) 1 ((b + 5) * n + 3) := by
  refine WrD.list (k := 0) (m := b + 3) (fun d hd => ?_) (by rw [List.length_map]; exact hn)
  rw [List.mem_map] at hd
  obtain ⟨x, hx, e⟩ := hd
  subst e
  exact WrD.intB (h x hx) hb
theorem WrD.map {α : Type} [Enc α] {xs : List α} {k m n : Nat} (h : ∀ x ∈ xs, WrD (enc x) k m) (hn : xs.length ≤ n) (hk : k ≤ 39 := by decide) : WrD (.list (encL xs)) (k + 1) ((m + 2) * n + 3) := by
  refine WrD.list (fun d hd => ?_) (by rw [List.length_map]; exact hn) hk
  rw [List.mem_map] at hd
  obtain ⟨x, hx, e⟩ := hd
  subst e
  exact h x hx
end Pd

/-! sums by choices, differences: the plain law -/
namespace Pd
open PySem PySem.Spec PyProof.Rows L2
/-- what heads tell -/
def N (x : Nat → Int) (p : Nat) : Int := sZ (fun k => (ch p k : Int) * x k) (p + 1)
theorem sZ_shift (f : Nat → Int) : ∀ m : Nat, sZ f (m + 1) = f 0 + sZ (fun k => f (k + 1)) m
  | 0 => by simp [sZ]
  | m + 1 => by
    show sZ f (m + 1) + f (m + 1) = f 0 + (sZ (fun k => f (k + 1)) m + f (m + 1))
    rw [sZ_shift f m]
    omega
theorem sZ_sub {f g : Nat → Int} : ∀ (m : Nat), sZ (fun j => f j - g j) m = sZ f m - sZ g m
  | 0 => rfl
  | m + 1 => by
    show sZ (fun j => f j - g j) m + (f m - g m) = sZ f m + f m - (sZ g m + g m)
    rw [sZ_sub m]
    omega
theorem sZ_neg {f : Nat → Int} : ∀ (m : Nat), sZ (fun j => -f j) m = -sZ f m
  | 0 => rfl
  | m + 1 => by
    show sZ (fun j => -f j) m + -f m = -(sZ f m + f m)
    rw [sZ_neg m]
    omega
/-- noughts behind count nothing -/
theorem sZ_more {f : Nat → Int} {m : Nat} : ∀ (n : Nat), m ≤ n → (∀ k, m ≤ k → k < n → f k = 0) → sZ f n = sZ f m
  | 0, h, _ => by
    have e : m = 0 := by omega
    subst e
    rfl
  | n + 1, h, hz => by
    by_cases e : m = n + 1
    · subst e
      rfl
    · show sZ f n + f n = _
      rw [hz n (by omega) (by omega), sZ_more n (by omega) fun k h1 h2 => hz k h1 (by omega)]
      omega
theorem N_zero (x : Nat → Int) : N x 0 = x 0 := by
  show 0 + (ch 0 0 : Int) * x 0 = _
  rw [ch_zero]
  simp
theorem N_succ (x : Nat → Int) (p : Nat) : N x (p + 1) = N x p + N (fun k => x (k + 1)) p := by
  unfold N
  rw [sZ_shift]
  have e : sZ (fun k => (ch (p + 1) (k + 1) : Int) * x (k + 1)) (p + 1) = sZ (fun k => (ch p k : Int) * x (k + 1) + (ch p (k + 1) : Int) * x (k + 1)) (p + 1) := sZ_congr fun k _ => by
    have : ch (p + 1) (k + 1) = ch p k + ch p (k + 1) := rfl
    rw [this, Int.natCast_add, Int.add_mul]
  rw [e, sZ_add]
  have e2 : sZ (fun k => (ch p (k + 1) : Int) * x (k + 1)) (p + 1) = sZ (fun k => (ch p (k + 1) : Int) * x (k + 1)) p := by
    show sZ _ p + (ch p (p + 1) : Int) * x (p + 1) = _
    rw [ch_gt (Nat.lt_succ_self p)]
    simp
  have e3 := sZ_shift (fun k => (ch p k : Int) * x k) p
  rw [e2, e3, ch_zero, ch_zero]
  dsimp only
  omega
theorem N_congr {x y : Nat → Int} {p : Nat} (h : ∀ k, k ≤ p → x k = y k) : N x p = N y p := sZ_congr fun k hk => by rw [h k (by omega)]
theorem N_sub (x y : Nat → Int) (p : Nat) : N (fun k => x k - y k) p = N x p - N y p := by
  unfold N
  rw [← sZ_sub]
  exact sZ_congr fun k _ => by rw [Int.mul_sub]
theorem N_neg (x : Nat → Int) (p : Nat) : N (fun k => -x k) p = -N x p := by
  unfold N
  rw [← sZ_neg]
  exact sZ_congr fun k _ => by rw [Int.mul_neg]
theorem N_add (x y : Nat → Int) (p : Nat) : N (fun k => x k + y k) p = N x p + N y p := by
  unfold N
  rw [← sZ_add]
  exact sZ_congr fun k _ => by rw [Int.mul_add]
/-- with other signs at odd places -/
def sgn : Nat → Int → Int := fun k x => if k % 2 = 0 then x else 0 - x
theorem sgn_sgn (k : Nat) (x : Int) : sgn k (sgn k x) = x := by
  unfold sgn
  split <;> omega
theorem sgn_succ (k : Nat) (x : Int) : sgn (k + 1) x = -sgn k x := by
  unfold sgn
  by_cases h : k % 2 = 0
  · rw [if_pos h, if_neg (by omega)]
    omega
  · rw [if_neg h, if_pos (by omega)]
    omega
theorem sgn_abs (k : Nat) (x : Int) : (sgn k x).natAbs = x.natAbs := by
  unfold sgn
  split
  · rfl
  · omega
theorem sgn_sub (k : Nat) (x y : Int) : sgn k (x - y) = sgn k x - sgn k y := by
  unfold sgn
  split <;> omega
theorem sgn_add (k : Nat) (x y : Int) : sgn k (x + y) = sgn k x + sgn k y := by
  unfold sgn
  split <;> omega
/-- taken back -/
def bk (x : Nat → Int) (p : Nat) : Int := sgn p (N (fun k => sgn k (x k)) p)
def Df (x : Nat → Int) : Nat → Int := fun i => x (i + 1) - x i
def Dn : Nat → (Nat → Int) → Nat → Int
  | 0, x => x
  | n + 1, x => Df (Dn n x)
theorem Dn_comm : ∀ (n : Nat) (x : Nat → Int), Dn (n + 1) x = Dn n (Df x)
  | 0, x => rfl
  | n + 1, x => by
    show Df (Dn (n + 1) x) = Df (Dn n (Df x))
    rw [Dn_comm n x]
theorem bk_zero (x : Nat → Int) : bk x 0 = x 0 := by
  unfold bk
  rw [N_zero]
  rfl
theorem bk_succ (x : Nat → Int) (p : Nat) : bk x (p + 1) = bk (Df x) p := by
  unfold bk
  rw [N_succ, sgn_succ, sgn_add]
  have e : N (fun k => sgn (k + 1) (x (k + 1))) p = -N (fun k => sgn k (x (k + 1))) p := by
    rw [← N_neg]
    exact N_congr fun k _ => sgn_succ k _
  have e2 : N (fun k => sgn k (Df x k)) p = N (fun k => sgn k (x (k + 1))) p - N (fun k => sgn k (x k)) p := by
    rw [← N_sub]
    exact N_congr fun k _ => sgn_sub k _ _
  rw [e, e2, sgn_sub]
  have e3 : ∀ y, sgn p (-y) = -sgn p y := fun y => by
    unfold sgn
    split <;> omega
  rw [e3]
  omega
/-- the heads -/
def hd (x : Nat → Int) (i : Nat) : Int := Dn i x 0
theorem bk_hd : ∀ (p : Nat) (x : Nat → Int), bk x p = hd x p
  | 0, x => bk_zero x
  | p + 1, x => by
    rw [bk_succ, bk_hd p]
    unfold hd
    rw [Dn_comm]
theorem hd_shift (x : Nat → Int) (k : Nat) : hd x (k + 1) = hd (Df x) k := by
  unfold hd
  rw [Dn_comm]
/-- Newton: the heads tell the numbers -/
theorem newton : ∀ (n : Nat) (x : Nat → Int), N (hd x) n = x n
  | 0, x => N_zero _
  | n + 1, x => by
    rw [N_succ, newton n x, N_congr (y := hd (Df x)) fun k _ => hd_shift x k, newton n (Df x)]
    show x n + (x (n + 1) - x n) = _
    omega
/-- .. and the numbers that they tell have them -/
theorem Df_N (h : Nat → Int) : Df (N h) = N fun k => h (k + 1) := by
  funext n
  show N h (n + 1) - N h n = _
  rw [N_succ]
  omega
theorem Dn_N : ∀ (i : Nat) (h : Nat → Int), Dn i (N h) = N fun k => h (k + i)
  | 0, h => rfl
  | i + 1, h => by
    rw [Dn_comm, Df_N, Dn_N i]
    rfl
theorem hd_N (h : Nat → Int) (i : Nat) : hd (N h) i = h i := by
  unfold hd
  rw [Dn_N, N_zero, Nat.zero_add]
/-! ### lists -/
def gt (xs : List Int) : Nat → Int := fun k => xs.getD k 0
theorem gt_get {xs : List Int} {k : Nat} {v : Int} (h : xs[k]? = some v) : gt xs k = v := by
  unfold gt
  rw [List.getD_eq_getElem?_getD, h]
  rfl
theorem gt_none {xs : List Int} {k : Nat} (h : xs.length ≤ k) : gt xs k = 0 := by
  unfold gt
  rw [List.getD_eq_getElem?_getD, List.getElem?_eq_none h]
  rfl
theorem gt_mem {xs : List Int} {k : Nat} (h : k < xs.length) : gt xs k ∈ xs := by
  unfold gt
  rw [List.getD_eq_getElem?_getD, List.getElem?_eq_getElem h]
  exact List.getElem_mem h
theorem gt_some {xs : List Int} {k : Nat} (h : k < xs.length) : xs[k]? = some (gt xs k) := by
  unfold gt
  rw [List.getD_eq_getElem?_getD, List.getElem?_eq_getElem h]
  rfl
theorem gt_range {f : Nat → Int} {n k : Nat} (h : k < n) : gt ((List.range n).map f) k = f k := by
  refine gt_get ?_
  rw [List.getElem?_map, List.getElem?_range h]
  rfl
theorem ext_gt {xs ys : List Int} (hl : xs.length = ys.length) (h : ∀ k, k < xs.length → gt xs k = gt ys k) : xs = ys := by
  refine List.ext_getElem? fun k => ?_
  by_cases hk : k < xs.length
  · rw [gt_some hk, gt_some (hl ▸ hk), h k hk]
  · rw [List.getElem?_eq_none (by omega), List.getElem?_eq_none (by omega)]
theorem list_range (xs : List Int) : xs = (List.range xs.length).map (gt xs) := ext_gt (by simp) fun k hk => by rw [gt_range hk]
theorem mi_range (f : Nat → Int → Int) (g : Nat → Int) : ∀ (m k : Nat), mi f k ((List.range' k m).map g) = (List.range' k m).map fun j => f j (g j)
  | 0, _ => rfl
  | m + 1, k => by
    rw [List.range'_succ, List.map_cons, List.map_cons, mi, mi_range f g m (k + 1)]
theorem mi_eq (f : Nat → Int → Int) (xs : List Int) : mi f 0 xs = (List.range xs.length).map fun j => f j (gt xs j) := by
  have h := mi_range f (gt xs) xs.length 0
  rw [← List.range_eq_range', ← list_range] at h
  exact h
theorem gt_mi {f : Nat → Int → Int} {xs : List Int} {k : Nat} (h : k < xs.length) : gt (mi f 0 xs) k = f k (gt xs k) := by
  rw [mi_eq, gt_range h]
theorem sum_range (f : Nat → Int) : ∀ m : Nat, ((List.range m).map f).sum = sZ f m
  | 0 => rfl
  | m + 1 => by
    rw [List.range_succ, List.map_append, List.sum_append, sum_range f m]
    simp [sZ]
theorem mi_sum (f : Nat → Int → Int) (xs : List Int) : (mi f 0 xs).sum = sZ (fun j => f j (gt xs j)) xs.length := by
  rw [mi_eq, sum_range]
/-- the number that heads tell -/
def nw (xs : List Int) (p : Nat) : Int := (mi (fun k v => (ch p k : Int) * v) 0 xs).sum
theorem nw_N (xs : List Int) (p : Nat) : nw xs p = N (gt xs) p := by
  unfold nw N
  rw [mi_sum]
  by_cases h : xs.length ≤ p + 1
  · exact (sZ_more (p + 1) h fun k h1 _ => by rw [gt_none h1, Int.mul_zero]).symm
  · exact sZ_more _ (by omega) fun k h1 _ => by rw [ch_gt (by omega)]; simp
theorem nw_take (xs : List Int) {p m : Nat} (h : p < m) : nw (xs.take m) p = nw xs p := by
  rw [nw_N, nw_N]
  refine N_congr fun k hk => ?_
  unfold gt
  rw [List.getD_eq_getElem?_getD, List.getD_eq_getElem?_getD, List.getElem?_take, if_pos (by omega)]
/-- the first so many numbers that heads tell -/
def vl (h : List Int) (m : Nat) : List Int := (List.range m).map (nw h)
theorem vl_len (h : List Int) (m : Nat) : (vl h m).length = m := by
  unfold vl
  simp
theorem gt_vl {h : List Int} {m k : Nat} (hk : k < m) : gt (vl h m) k = nw h k := gt_range hk
def sg (xs : List Int) : List Int := mi sgn 0 xs
theorem sg_len (xs : List Int) : (sg xs).length = xs.length := mi_len _ _ _
theorem gt_sg (xs : List Int) (k : Nat) : gt (sg xs) k = sgn k (gt xs k) := by
  by_cases h : k < xs.length
  · exact gt_mi h
  · rw [gt_none (by rw [sg_len]; omega), gt_none (by omega)]
    unfold sgn
    split <;> rfl
/-- choice sums -/
def sums (xs : List Int) : List Int := vl xs xs.length
theorem sums_len (xs : List Int) : (sums xs).length = xs.length := vl_len _ _
/-- taken back -/
def backs (xs : List Int) : List Int := sg (sums (sg xs))
theorem backs_len (xs : List Int) : (backs xs).length = xs.length := by
  unfold backs
  rw [sg_len, sums_len, sg_len]
theorem gt_backs {xs : List Int} {k : Nat} (h : k < xs.length) : gt (backs xs) k = hd (gt xs) k := by
  unfold backs
  rw [gt_sg]
  unfold sums
  rw [gt_vl (by rw [sg_len]; exact h), nw_N, ← bk_hd]
  unfold bk
  congr 1
  exact N_congr fun k _ => gt_sg xs k
theorem backs_eq (xs : List Int) : backs xs = (List.range xs.length).map (hd (gt xs)) := by
  rw [list_range (backs xs), backs_len]
  refine List.map_congr_left fun k hk => ?_
  rw [List.mem_range] at hk
  exact gt_backs hk
/-- only what is ahead counts -/
theorem Dn_congr : ∀ (i : Nat) {x y : Nat → Int} {j : Nat}, (∀ k, k ≤ i + j → x k = y k) → Dn i x j = Dn i y j
  | 0, x, y, j, h => h j (by omega)
  | i + 1, x, y, j, h => by
    show Dn i x (j + 1) - Dn i x j = Dn i y (j + 1) - Dn i y j
    rw [Dn_congr i fun k hk => h k (by omega), Dn_congr i fun k hk => h k (by omega)]
theorem hd_congr {i : Nat} {x y : Nat → Int} (h : ∀ k, k ≤ i → x k = y k) : hd x i = hd y i := Dn_congr i fun k hk => h k (by omega)
theorem newton_l {xs : List Int} {p : Nat} (h : p < xs.length) : nw (backs xs) p = gt xs p := by
  rw [nw_N, N_congr (y := hd (gt xs)) fun k hk => gt_backs (by omega), newton]
/-- sums and back -/
theorem backs_sums (xs : List Int) : backs (sums xs) = xs := by
  refine ext_gt (by rw [backs_len, sums_len]) fun k hk => ?_
  rw [backs_len, sums_len] at hk
  rw [gt_backs (by rw [sums_len]; exact hk), hd_congr (y := N (gt xs)) fun j hj => ?_, hd_N]
  unfold sums
  rw [gt_vl (by omega), nw_N]
theorem sums_backs (xs : List Int) : sums (backs xs) = xs := by
  refine ext_gt (by rw [sums_len, backs_len]) fun k hk => ?_
  rw [sums_len, backs_len] at hk
  unfold sums
  rw [gt_vl (by rw [backs_len]; exact hk), newton_l hk]
/-! differences -/
def dif : List Int → List Int
  | x :: y :: r => (y - x) :: dif (y :: r)
  | _ => []
theorem dif_zip : ∀ xs : List Int, (List.zip xs (xs.drop 1)).map (fun p => p.2 - p.1) = dif xs
  | [] => rfl
  | [_] => rfl
  | x :: y :: r => by
    have ih := dif_zip (y :: r)
    show (y - x) :: (List.zip (y :: r) ((y :: r).drop 1)).map (fun p => p.2 - p.1) = (y - x) :: dif (y :: r)
    rw [ih]
theorem dif_len : ∀ xs : List Int, (dif xs).length = xs.length - 1
  | [] => rfl
  | [_] => rfl
  | x :: y :: r => by
    rw [dif, List.length_cons, dif_len (y :: r)]
    simp
theorem gt_dif : ∀ {xs : List Int} {k : Nat}, k + 1 < xs.length → gt (dif xs) k = gt xs (k + 1) - gt xs k
  | [], k, h => by simp at h
  | [_], k, h => by simp at h
  | x :: y :: r, 0, h => rfl
  | x :: y :: r, k + 1, h => by
    show gt (dif (y :: r)) k = gt (y :: r) (k + 1) - gt (y :: r) k
    exact gt_dif (by simpa using h)
def difN : Nat → List Int → List Int
  | 0, xs => xs
  | n + 1, xs => dif (difN n xs)
theorem difN_len : ∀ (n : Nat) (xs : List Int), (difN n xs).length = xs.length - n
  | 0, _ => rfl
  | n + 1, xs => by
    rw [difN, dif_len, difN_len n xs]
    omega
theorem gt_difN : ∀ {i : Nat} {xs : List Int} {k : Nat}, k + i < xs.length → gt (difN i xs) k = Dn i (gt xs) k
  | 0, xs, k, h => rfl
  | i + 1, xs, k, h => by
    rw [difN, gt_dif (by rw [difN_len]; omega), gt_difN (by omega), gt_difN (by omega)]
    rfl
theorem head_difN {i : Nat} {xs : List Int} (h : i < xs.length) : (difN i xs)[0]? = some (hd (gt xs) i) := by
  rw [gt_some (by rw [difN_len]; omega), gt_difN (by omega)]
  rfl
def rowsL (xs : List Int) : List (List Int) := (List.range xs.length).map fun i => difN i xs
/-! noughts at the end go -/
def stripN : Nat → List Int → List Int
  | 0, xs => xs
  | n + 1, xs => if xs.getLast? = some 0 then stripN n xs.dropLast else xs
def strip (xs : List Int) : List Int := stripN xs.length xs
theorem gt_dropLast {xs : List Int} (h : xs.getLast? = some 0) (k : Nat) : gt xs.dropLast k = gt xs k := by
  rcases List.eq_nil_or_concat xs with e | ⟨ys, y, e⟩
  · subst e
    rfl
  · rw [List.concat_eq_append] at e
    subst e
    have hy : y = 0 := by simpa using h
    subst hy
    rw [List.dropLast_concat]
    by_cases hk : k < ys.length
    · unfold gt
      rw [List.getD_eq_getElem?_getD, List.getD_eq_getElem?_getD, List.getElem?_append_left hk]
    · rw [gt_none (xs := ys) (by omega)]
      by_cases hk2 : k = ys.length
      · subst hk2
        unfold gt
        rw [List.getD_eq_getElem?_getD, List.getElem?_append_right (Nat.le_refl _), Nat.sub_self]
        rfl
      · rw [gt_none (by simp; omega)]
theorem gt_stripN : ∀ (n : Nat) (xs : List Int) (k : Nat), gt (stripN n xs) k = gt xs k
  | 0, _, _ => rfl
  | n + 1, xs, k => by
    rw [stripN]
    split
    · rename_i h
      rw [gt_stripN n, gt_dropLast h]
    · rfl
theorem gt_strip (xs : List Int) : gt (strip xs) = gt xs := funext fun k => gt_stripN _ _ k
theorem stripN_last : ∀ (n : Nat) (xs : List Int), xs.length ≤ n → (stripN n xs).getLast? ≠ some 0
  | 0, xs, h => by
    have : xs = [] := List.length_eq_zero_iff.mp (by omega)
    subst this
    simp [stripN]
  | n + 1, xs, h => by
    rw [stripN]
    split
    · exact stripN_last n _ (by rw [List.length_dropLast]; omega)
    · rename_i e
      exact e
theorem strip_last (xs : List Int) : (strip xs).getLast? ≠ some 0 := stripN_last _ _ (Nat.le_refl _)
theorem stripN_len : ∀ (n : Nat) (xs : List Int), (stripN n xs).length ≤ xs.length
  | 0, _ => Nat.le_refl _
  | n + 1, xs => by
    rw [stripN]
    split
    · have := stripN_len n xs.dropLast
      rw [List.length_dropLast] at this
      omega
    · exact Nat.le_refl _
theorem strip_len (xs : List Int) : (strip xs).length ≤ xs.length := stripN_len _ _
theorem stripN_mem : ∀ (n : Nat) (xs : List Int) (x : Int), x ∈ stripN n xs → x ∈ xs
  | 0, _, _, h => h
  | n + 1, xs, x, h => by
    rw [stripN] at h
    split at h
    · exact List.dropLast_subset _ (stripN_mem n _ _ h)
    · exact h
theorem strip_mem {xs : List Int} {x : Int} (h : x ∈ strip xs) : x ∈ xs := stripN_mem _ _ _ h
/-- behind its end are noughts alone -/
theorem strip_le {xs : List Int} {d : Nat} : (strip xs).length ≤ d ↔ ∀ k, d ≤ k → gt xs k = 0 := by
  constructor
  · intro h k hk
    rw [← gt_strip, gt_none (by omega)]
  · intro h
    refine Classical.byContradiction fun hc => ?_
    have hl := strip_last xs
    rcases List.eq_nil_or_concat (strip xs) with e | ⟨ys, y, e⟩
    · rw [e] at hc
      simp at hc
    · rw [List.concat_eq_append] at e
      rw [e] at hl hc
      have hy : gt (strip xs) ys.length = y := by
        rw [e]
        refine gt_get ?_
        rw [List.getElem?_append_right (Nat.le_refl _), Nat.sub_self]
        rfl
      rw [gt_strip, h ys.length (by simp at hc; omega)] at hy
      subst hy
      simp at hl
theorem nw_strip (xs : List Int) (p : Nat) : nw (strip xs) p = nw xs p := by
  rw [nw_N, nw_N, gt_strip]
theorem nw_congr {xs ys : List Int} (h : gt xs = gt ys) (p : Nat) : nw xs p = nw ys p := by
  rw [nw_N, nw_N, h]
/-! how great -/
def bd_ (b : Nat) (xs : List Int) : Prop := ∀ x ∈ xs, x.natAbs ≤ b
theorem sZ_abs {f : Nat → Int} {b : Nat} : ∀ {m : Nat}, (∀ k, k < m → (f k).natAbs ≤ b) → (sZ f m).natAbs ≤ m * b
  | 0, _ => by simp [sZ]
  | m + 1, h => by
    have h1 := sZ_abs (m := m) fun k hk => h k (by omega)
    have h2 := h m (by omega)
    have h3 := Int.natAbs_add_le (sZ f m) (f m)
    rw [Nat.succ_mul]
    show (sZ f m + f m).natAbs ≤ _
    omega
theorem nw_abs {xs : List Int} {b p c m : Nat} (h : bd_ b xs) (hl : xs.length ≤ m) (hc : ∀ k, k < xs.length → ch p k ≤ c) : (nw xs p).natAbs ≤ m * (c * b) := by
  unfold nw
  rw [mi_sum]
  refine Nat.le_trans (sZ_abs (b := c * b) fun k hk => ?_) (Nat.mul_le_mul_right _ hl)
  rw [Int.natAbs_mul, Int.natAbs_natCast]
  exact Nat.mul_le_mul (hc k hk) (h _ (gt_mem hk))
end Pd

/-! what the typed functions of sums, differences, heads give -/
namespace Pd
open PySem PySem.Spec PyProof.Rows L2
theorem whM_mono {S : Type} {c : S → Option Bool} {f : S → Option S} : ∀ {m n : Nat} {s r : S}, m ≤ n → whM c f m s = some r → whM c f n s = some r
  | 0, _, _, _, _, h => by cases h
  | m + 1, 0, _, _, hl, _ => absurd hl (by omega)
  | m + 1, n + 1, s, r, hl, h => by
    obtain ⟨t, h1, h2⟩ := bd_some h
    show bd (c s) _ = _
    rw [h1]
    cases t with
    | false => exact h2
    | true =>
      obtain ⟨s1, h3, h4⟩ := bd_some h2
      show bd (f s) _ = _
      rw [h3]
      exact whM_mono (by omega) h4
theorem r_int (i : Int) : t_is_integer (.int i) = some true := by
  unfold t_is_integer
  rw [gd_eq (show plainD (.int i) = true from rfl)]
  show bd (gd (plainD (.int i) = true) (some true)) _ = _
  rw [gd_eq (show plainD (.int i) = true from rfl)]
  rfl
theorem r_within (v lo hi : Int) : t_is_within (.int v) lo hi = some (decide (lo ≤ v) && decide (v ≤ hi)) := by
  unfold t_is_within
  rw [r_int]
  rfl
theorem r_withinT {v lo hi : Int} (h : lo ≤ v ∧ v ≤ hi) : t_is_within (.int v) lo hi = some true := by
  rw [r_within, decide_eq_true h.1, decide_eq_true h.2]
  rfl
theorem r_listQ (q : Sq Int) : t_is_list (enc q) = some true := by
  unfold t_is_list
  rw [gd_eq (q_plain q), q_isl]
theorem r_wantC {v m : Int} (h : 0 ≤ v ∧ v ≤ m) : t_want_count v m = some () := by
  unfold t_want_count
  rw [r_withinT h]
  show gd (true = true) (some ()) = _
  rw [gd_eq rfl]
def smallN (xs : List Int) : Prop := xs.length ≤ 60 ∧ ∀ x ∈ xs, -1000000000000 ≤ x ∧ x ≤ 1000000000000
theorem r_wantN {q : Sq Int} (h : smallN q.l) : t_want_numbers q = some () := by
  unfold t_want_numbers
  rw [r_listQ]
  have hl := h.1
  rw [bd_eq, gd_eq rfl, gd_eq (by omega), gd_eq (by omega), mpM_of (g := fun _ => true) fun a ha => by
    have := h.2 a ha
    rw [r_withinT (by omega)]
    rfl]
  rw [bd_eq, gd_eq ?_]
  rw [List.all_eq_true]
  intro x hx
  rw [List.mem_map] at hx
  obtain ⟨_, _, e⟩ := hx
  rw [← e]
  rfl
def big (x : Int) : Prop := x.natAbs < 2 ^ 100000
theorem small_big {x : Int} (h : -1000000000000 ≤ x ∧ x ≤ 1000000000000) : big x := by
  have h1 : x.natAbs < 2 ^ 50 := by omega
  have h2 : (2 : Nat) ^ 50 ≤ 2 ^ 100000 := Nat.pow_le_pow_right (by omega) (by omega)
  unfold big
  omega
theorem big_of {x : Int} {b : Nat} (h : x.natAbs < 2 ^ b) (hb : b ≤ 100000 := by decide) : big x := by
  have h2 : (2 : Nat) ^ b ≤ 2 ^ 100000 := Nat.pow_le_pow_right (by omega) hb
  unfold big
  omega
theorem mulOk_ch {n k : Nat} {v : Int} (hn : n ≤ 1000000000) (hk : k ≤ 1001) (hv : big v) : mulOk (ch n k : Int) v = true := by
  refine mulOk_of 64065 100000 ?_ hv (by omega)
  rw [Int.natAbs_natCast]
  have h1 : n < 2 ^ 64 := by omega
  have b1 : ch n k ≤ 2 ^ (64 * k) := Nat.le_trans (ch_le n k) (pow_lt_bits h1 k)
  have b2 : (2 : Nat) ^ (64 * k) < 2 ^ 64065 := Nat.pow_lt_pow_right (by omega) (by omega)
  omega
/-- the loop that makes choices -/
theorem ch_loop {n m : Nat} (hn : n < 2 ^ 64) (hm : m ≤ 1001) : forM (fun (a3 : Int) (s4 : Int) => gd (mulOk s4 ((n : Int) - a3) = true) <| gd (divOk (a3 + (1:Int)) = true) <| lt (((s4 * ((n : Int) - a3)) / (a3 + (1:Int))) : Int) fun w9 => some w9) (rng1 (m : Int)) (1:Int) = some (ch n m : Int) := by
  have z := forM_rng (f := fun (a3 : Int) (s4 : Int) => gd (mulOk s4 ((n : Int) - a3) = true) <| gd (divOk (a3 + (1:Int)) = true) <| lt (((s4 * ((n : Int) - a3)) / (a3 + (1:Int))) : Int) fun w9 => some w9) (fun i => (ch n i : Int)) (n := m) fun i hi => by
    have e1 : (ch n i : Int) * ((n : Int) - i) / ((i : Int) + 1) = (ch n (i + 1) : Int) := by
      rw [← ch_stepZ]
      exact Int.mul_ediv_cancel _ (by omega)
    have m1 : mulOk (ch n i : Int) ((n : Int) - i) = true := by
      have b1 : ch n i ≤ 2 ^ (64 * i) := Nat.le_trans (ch_le n i) (pow_lt_bits hn i)
      have b2 : (2 : Nat) ^ (64 * i) < 2 ^ 64065 := Nat.pow_lt_pow_right (by omega) (by omega)
      refine mulOk_of 64065 65 (by rw [Int.natAbs_natCast]; omega) ?_ (by omega)
      have : ((n : Int) - i).natAbs < 2 ^ 64 + 1001 := by omega
      omega
    have d1 : divOk ((i : Int) + 1) = true := divOk_of 64 (by omega) (by omega) (by omega)
    show gd _ (gd _ (some _)) = _
    rw [gd_eq m1, gd_eq d1, e1]
  rw [ch_zero] at z
  exact z
theorem r_choose {n k : Nat} (hn : n ≤ 1000000000) (hk : k ≤ 1000 ∨ n < k ∨ n - k ≤ 1000) : t_choose_of (n : Int) (k : Int) = some (ch n k : Int) := by
  unfold t_choose_of
  by_cases h : n < k
  · rw [if_pos (by rw [decide_eq_true_eq]; omega), ch_gt h]
    rfl
  · rw [if_neg (by rw [decide_eq_true_eq]; omega)]
    have hmin : ∃ m : Nat, imin (k : Int) ((n : Int) - k) = m ∧ m ≤ 1000 ∧ ch n k = ch n m := by
      unfold imin
      by_cases h : (n : Int) - k < k
      · refine ⟨n - k, by rw [if_pos h]; omega, by omega, ch_symm (by omega)⟩
      · refine ⟨k, by rw [if_neg h], by omega, rfl⟩
    obtain ⟨m, em, hm1, hchm⟩ := hmin
    rw [em, hchm, gd_eq (ibd_nat (by omega)), ch_loop (by omega) (by omega)]
    rfl
theorem r_lchoose {n k : Nat} (hn : n ≤ 1000000000) (hk : k ≤ 1000 ∨ n < k) : t__law_choose (n : Int) (k : Int) = some (ch n k : Int) := by
  unfold t__law_choose
  by_cases h : n < k
  · have e : (decide ((0:Int) ≤ (k : Int)) && decide ((k : Int) ≤ (n : Int))) = false := by
      rw [decide_eq_false (show ¬ (k : Int) ≤ (n : Int) by omega), Bool.and_false]
    rw [if_pos (by rw [e]; rfl), ch_gt h]
    rfl
  · have e : (decide ((0:Int) ≤ (k : Int)) && decide ((k : Int) ≤ (n : Int))) = true := by
      rw [decide_eq_true (show (0 : Int) ≤ (k : Int) by omega), decide_eq_true (show (k : Int) ≤ (n : Int) by omega)]
      rfl
    rw [if_neg (by rw [e]; decide), gd_eq (ibd_nat (by omega)), ch_loop (by omega) (by omega)]
    rfl
theorem r_signed {q : Sq Int} (hl : q.l.length ≤ 10000) : t_signed q = some (sg q.l) := by
  unfold t_signed
  rw [gd_eq (by rw [enumT_len]; omega)]
  congr 1
  exact mi_map (f := sgn) (fun k v => by
    dsimp only
    unfold sgn
    by_cases h : k % 2 = 0
    · rw [if_pos h, if_pos (by rw [decide_eq_true_eq]; omega)]
    · rw [if_neg h, if_neg (by rw [decide_eq_true_eq]; omega)]) q.l 0
/-- numbers by choices, summed -/
theorem nw_loop {f : Int × Int → Option Int} {xs : List Int} {p : Nat} (h : ∀ (k : Nat) (v : Int), xs[k]? = some v → f ((k : Int), v) = some ((ch p k : Int) * v)) : mpM f (enumT 0 xs) = some (mi (fun k v => (ch p k : Int) * v) 0 xs) := mpM_enum h
theorem r_byHeads {q : Sq Int} {p : Nat} (hp : p ≤ 1000000) (hl : q.l.length ≤ 1000) (hb : ∀ x ∈ q.l, big x) : t_by_heads q (p : Int) = some (nw q.l p) := by
  unfold t_by_heads
  rw [gd_eq (by rw [enumT_len]; omega), nw_loop (p := p) fun k v hv => by
    have hk : k < q.l.length := (List.getElem?_eq_some_iff.mp hv).1
    dsimp only
    rw [r_choose (by omega) (by omega), bd_eq, gd_eq (mulOk_ch (by omega) (by omega) (hb v (List.mem_of_getElem? hv)))]]
  rfl
theorem r_lbyHeads {q : Sq Int} {p : Nat} (hp : p ≤ 1000000) (hl : q.l.length ≤ 1000) (hb : ∀ x ∈ q.l, big x) : t__law_by_heads q (p : Int) = some (nw q.l p) := by
  unfold t__law_by_heads
  rw [gd_eq (by rw [enumT_len]; omega), nw_loop (p := p) fun k v hv => by
    have hk : k < q.l.length := (List.getElem?_eq_some_iff.mp hv).1
    dsimp only
    rw [r_lchoose (by omega) (by omega), bd_eq, gd_eq (mulOk_ch (by omega) (by omega) (hb v (List.mem_of_getElem? hv)))]]
  rfl
theorem r_summed {q : Sq Int} {p : Nat} (hp : p ≤ 1000) (hl : q.l.length ≤ 1000) (hb : ∀ x ∈ q.l, big x) : t_summed_at q (p : Int) = some (nw q.l p) := by
  unfold t_summed_at
  have e : (q.cut none (some ((p : Int) + (1:Int)))).l = q.l.take (p + 1) := cut_take q.l (p + 1)
  rw [e, gd_eq (by rw [enumT_len, List.length_take]; omega), nw_loop (p := p) fun k v hv => by
    have hk : k < q.l.length := by
      have := (List.getElem?_eq_some_iff.mp hv).1
      rw [List.length_take] at this
      omega
    dsimp only
    rw [r_choose (by omega) (by omega), bd_eq, gd_eq (mulOk_ch (by omega) (by omega) (hb v (List.mem_of_mem_take (List.mem_of_getElem? hv))))]]
  rw [bd_eq]
  congr 1
  exact nw_take q.l (by omega)
theorem r_sums {q : Sq Int} (hl : q.l.length ≤ 1000) (hb : ∀ x ∈ q.l, big x) : t_sums_of q = some (sums q.l) := by
  unfold t_sums_of
  rw [gd_eq (ibd_nat (by omega)), gd_eq (by rw [rng1_len]; omega), mpM_rng (g := nw q.l) fun i hi => by
    rw [r_summed (by omega) hl hb]
    rfl]
  rfl
theorem big_sg {xs : List Int} (h : ∀ x ∈ xs, big x) : ∀ x ∈ sg xs, big x := fun x hx => by
  obtain ⟨i, hi, e⟩ := List.getElem_of_mem hx
  have hi' : i < xs.length := by rw [sg_len] at hi; exact hi
  have e2 : gt (sg xs) i = x := gt_get (by rw [List.getElem?_eq_getElem hi, e])
  rw [gt_sg] at e2
  unfold big
  rw [← e2, sgn_abs]
  exact h _ (gt_mem hi')
theorem r_back {q : Sq Int} (hl : q.l.length ≤ 1000) (hb : ∀ x ∈ q.l, big x) : t_back_of q = some (backs q.l) := by
  unfold t_back_of
  rw [r_signed (by omega), bd_eq, r_sums (q := ⟨false, sg q.l⟩) (by show (sg q.l).length ≤ _; rw [sg_len]; exact hl) (big_sg hb), bd_eq, r_signed (q := ⟨false, sums (sg q.l)⟩) (by show (sums (sg q.l)).length ≤ _; rw [sums_len, sg_len]; omega)]
  rfl
theorem wh_strip : ∀ (n : Nat) (xs : List Int), xs.length ≤ n → whM (fun (s2 : (List Int)) => bd (if (!dec (s2 = [])) = true then bd (L2.atI s2 (-1:Int)) fun v6 => some (decide (v6 = (0:Int))) else some false) fun v5 => some v5) (fun (s2 : (List Int)) => bd ((s2).getLast?) fun v8 => lt ((s2).dropLast : (List Int)) fun w9 => some w9) (n + 1) xs = some (stripN n xs)
  | n, xs, hn => by
    rcases List.eq_nil_or_concat xs with e | ⟨ys, y, e⟩
    · subst e
      have e1 : stripN n [] = [] := by cases n <;> rfl
      rw [e1]
      show bd (bd (if (!dec (([] : List Int) = [])) = true then _ else some false) _) _ = _
      rw [dec_T rfl]
      rfl
    · rw [List.concat_eq_append] at e
      subst e
      show bd (bd (if (!dec (ys ++ [y] = [])) = true then _ else some false) _) _ = _
      rw [dec_F (by simp), if_pos (by rfl), at_last]
      have hl : (ys ++ [y]).getLast? = some y := by simp
      rw [List.length_append, List.length_singleton] at hn
      obtain ⟨m, rfl⟩ : ∃ m, n = m + 1 := ⟨n - 1, by omega⟩
      by_cases hy : y = 0
      · subst hy
        have ih := wh_strip m ys (by omega)
        rw [stripN, if_pos hl, List.dropLast_concat]
        show bd (bd ((ys ++ [(0:Int)]).getLast?) _) _ = _
        rw [hl, bd_eq]
        show bd (some (ys ++ [(0:Int)]).dropLast) _ = _
        rw [List.dropLast_concat, bd_eq]
        exact ih
      · rw [stripN, if_neg (by rw [hl]; simpa using hy)]
        show (match decide (y = 0) with
          | true => _
          | false => some (ys ++ [y])) = _
        rw [decide_eq_false hy]
theorem r_told {q : Sq Int} (hl : q.l.length ≤ 900) (hb : ∀ x ∈ q.l, big x) : t_told_heads q = some (strip (backs q.l)) := by
  unfold t_told_heads
  have z := whM_mono (n := nF) (by rw [backs_len]; show q.l.length + 1 ≤ 1000; omega) (wh_strip (backs q.l).length (backs q.l) (Nat.le_refl _))
  rw [r_back (by omega) hb, bd_eq, z]
  rfl
theorem r_rowBelow {q : Sq Int} (hl : q.l.length ≤ 10000) : t_row_below q = some (dif q.l) := by
  unfold t_row_below
  have e : (q.cut (some (1:Int)) none).l = q.l.drop 1 := cut_drop q.l 1
  rw [e, gd_eq (by rw [List.length_zip]; omega), dif_zip]
theorem r_rows {xs : List Int} (hl : xs.length ≤ 1000) : t__law_rows xs = some (rowsL xs) := by
  unfold t__law_rows
  rw [gd_eq (ibd_nat (by omega))]
  have z := forM_rng (f := fun (a2 : Int) (s3 : (List (List Int)) × (List Int)) => gd ((s3.1).length < 16777216) <| lt ((s3.1 ++ [s3.2]) : (List (List Int))) fun w7 => gd (((List.zip s3.2 (cutD s3.2 (some (1:Int)) none))).length < 16777216) <| lt ((((List.zip s3.2 (cutD s3.2 (some (1:Int)) none))).map (fun (a8 : (Int × Int)) => (a8.2 - a8.1))) : (List Int)) fun w10 => some (w7, w10)) (fun i => ((List.range i).map fun j => difN j xs, difN i xs)) (n := xs.length) fun i hi => by
    have e : cutD (difN i xs) (some (1:Int)) none = (difN i xs).drop 1 := cut_drop _ 1
    dsimp only
    rw [gd_eq (by simp; omega)]
    show gd _ (some (_, _)) = _
    rw [e, gd_eq (by rw [List.length_zip, difN_len]; omega), dif_zip, List.range_succ, List.map_append]
    rfl
  have z : forM _ (rng1 (xs.length : Int)) ([], xs) = _ := z
  rw [z]
  rfl
theorem wh_rows {xs : List Int} (hs : smallN xs) : ∀ (n i : Nat), xs.length - i ≤ n → i ≤ xs.length → whM (fun (s2 : (List (List Int)) × (List Int)) =>  some (!dec (s2.2 = []))) (fun (s2 : (List (List Int)) × (List Int)) => gd ((s2.1).length < 16777216) <| lt ((s2.1 ++ [s2.2]) : (List (List Int))) fun w7 => bd (t_row_below (Sq.mk false s2.2)) fun r8 => some (w7, r8)) (n + 1) ((List.range i).map fun j => difN j xs, difN i xs) = some (rowsL xs, [])
  | n, i, hn, hi => by
    have hl := difN_len i xs
    have h60 := hs.1
    by_cases h : i = xs.length
    · have e : difN i xs = [] := List.length_eq_zero_iff.mp (by omega)
      show (match !dec (difN i xs = []) with
        | true => _
        | false => some ((List.range i).map fun j => difN j xs, difN i xs)) = _
      rw [dec_T e, e, h]
      rfl
    · have e : ¬ difN i xs = [] := fun z => by rw [z] at hl; simp at hl; omega
      obtain ⟨m, rfl⟩ : ∃ m, n = m + 1 := ⟨n - 1, by omega⟩
      have ih := wh_rows hs m (i + 1) (by omega) (by omega)
      show (match !dec (difN i xs = []) with
        | true => bd (gd _ (bd (t_row_below (Sq.mk false (difN i xs))) _)) _
        | false => _) = _
      rw [dec_F e]
      show bd (gd _ (bd (t_row_below (Sq.mk false (difN i xs))) _)) _ = _
      rw [gd_eq (by simp; omega), r_rowBelow (q := ⟨false, difN i xs⟩) (by show (difN i xs).length ≤ _; omega), bd_eq, bd_eq]
      rw [List.range_succ, List.map_append] at ih
      exact ih
theorem r_diffRows {q : Sq Int} (hs : smallN q.l) : t_difference_rows q = some (rowsL q.l) := by
  unfold t_difference_rows
  have h60 := hs.1
  have z := whM_mono (n := nF) (show q.l.length + 1 ≤ 1000 by omega) (wh_rows hs q.l.length 0 (by omega) (by omega))
  have z : whM _ _ nF (([] : List (List Int)), q.l) = _ := z
  rw [r_wantN hs, bd_eq, z]
  rfl
theorem r_diffRow {q : Sq Int} (hs : smallN q.l) : t_difference_row q = some (dif q.l) := by
  unfold t_difference_row
  have h60 := hs.1
  rw [r_wantN hs, bd_eq, r_rowBelow (by omega)]
  rfl
theorem smallN.big {xs : List Int} (h : smallN xs) : ∀ x ∈ xs, Pd.big x := fun x hx => small_big (h.2 x hx)
theorem r_diffHeads {q : Sq Int} (hs : smallN q.l) : t_difference_heads q = some (backs q.l) := by
  unfold t_difference_heads
  have h60 := hs.1
  rw [r_wantN hs, bd_eq, r_back (by omega) hs.big]
  rfl
theorem r_takenBack {q : Sq Int} (hs : smallN q.l) : t_taken_back q = some (backs q.l) := by
  unfold t_taken_back
  have h60 := hs.1
  rw [r_wantN hs, bd_eq, r_back (by omega) hs.big]
  rfl
theorem r_choiceSums {q : Sq Int} (hs : smallN q.l) : t_choice_sums q = some (sums q.l) := by
  unfold t_choice_sums
  have h60 := hs.1
  rw [r_wantN hs, bd_eq, r_sums (by omega) hs.big]
  rfl
theorem r_degree {q : Sq Int} (hs : smallN q.l) : t_heads_degree q = some (((strip (backs q.l)).length : Int) - 1) := by
  unfold t_heads_degree
  have h60 := hs.1
  rw [r_wantN hs, bd_eq, r_told (by omega) hs.big]
  rfl
theorem r_numberBy {q : Sq Int} {p : Nat} (hs : smallN q.l) (hp : p ≤ 200) : t_number_by q (p : Int) = some (nw q.l p) := by
  unfold t_number_by
  have h60 := hs.1
  rw [r_wantN hs, bd_eq, r_wantC (by omega), bd_eq, r_byHeads (by omega) (by omega) hs.big]
  rfl
end Pd

/-! primes, digits, rests of choices, carries -/
namespace Pd
open PySem PySem.Spec PyProof.Rows L2
structure Pm (p : Nat) : Prop where
  two : 2 ≤ p
  le : p ≤ 97
  pr : ∀ d, d < p + 1 → p % d = 0 → d = 1 ∨ d = p
theorem pm_of {p : Nat} (h : p ∈ [2, 2, 3, 3, 5, 7, 11, 13, 89, 97]) : Pm p := by
  simp only [List.mem_cons, List.not_mem_nil, or_false] at h
  rcases h with e | e | e | e | e | e | e | e | e | e <;> subst e <;> exact ⟨by decide, by decide, by decide⟩
section
variable {p : Nat}
theorem Pm.dvd (h : Pm p) {a b : Nat} (hd : p ∣ a * b) : p ∣ a ∨ p ∣ b := by
  have g := Nat.gcd_dvd_left p a
  have hp := h.two
  rcases h.pr (Nat.gcd p a) (Nat.lt_succ_of_le (Nat.le_of_dvd (by omega) g)) (Nat.mod_eq_zero_of_dvd g) with e | e
  · exact .inr (Nat.Coprime.dvd_of_dvd_mul_left e hd)
  · exact .inl (e ▸ Nat.gcd_dvd_right p a)
theorem not_dvd_lt {a : Nat} (h0 : 0 < a) (h1 : a < p) : ¬ p ∣ a := fun h => by
  have := Nat.le_of_dvd h0 h
  omega
theorem ch_unit (h : Pm p) {n : Nat} (hn : n < p) : ∀ {k : Nat}, k ≤ n → ¬ p ∣ ch n k
  | 0, _ => by
    rw [ch_zero]
    exact not_dvd_lt (by omega) (by have := h.two; omega)
  | k + 1, hk => fun hd => by
    have h1 := ch_step n k
    have h2 : p ∣ ch n k * (n - k) := h1 ▸ Nat.dvd_mul_right_of_dvd hd _
    rcases h.dvd h2 with q | q
    · exact ch_unit h hn (by omega) q
    · exact not_dvd_lt (by omega) (by omega) q
theorem ch_p (h : Pm p) {j : Nat} (h0 : 0 < j) (h1 : j < p) : ch p j % p = 0 := by
  obtain ⟨m, rfl⟩ : ∃ m, p = m + 1 := ⟨p - 1, by have := h.two; omega⟩
  obtain ⟨i, rfl⟩ : ∃ i, j = i + 1 := ⟨j - 1, by omega⟩
  have e := ch_abs m i
  have h2 : (m + 1) ∣ (i + 1) * ch (m + 1) (i + 1) := ⟨ch m i, e⟩
  rcases h.dvd h2 with q | q
  · exact absurd q (not_dvd_lt (by omega) h1)
  · exact Nat.mod_eq_zero_of_dvd q
def Lc (p n k : Nat) : Nat := ch (n / p) (k / p) * ch (n % p) (k % p)
theorem dm_succ (hp : 0 < p) (n : Nat) : (n % p + 1 < p ∧ (n + 1) / p = n / p ∧ (n + 1) % p = n % p + 1) ∨ (n % p + 1 = p ∧ (n + 1) / p = n / p + 1 ∧ (n + 1) % p = 0) := by
  have h1 := Nat.div_add_mod n p
  have h2 := Nat.mod_lt n hp
  by_cases h : n % p + 1 < p
  · refine .inl ⟨h, ?_, ?_⟩
    · rw [Nat.div_eq_iff hp]
      have : n / p * p = p * (n / p) := Nat.mul_comm _ _
      constructor <;> omega
    · have e : n + 1 = (n % p + 1) + p * (n / p) := by omega
      rw [e, Nat.add_mul_mod_self_left, Nat.mod_eq_of_lt h]
  · refine .inr ⟨by omega, ?_, ?_⟩
    · have e : n + 1 = p * (n / p + 1) := by rw [Nat.mul_add]; omega
      rw [e, Nat.mul_div_cancel_left _ hp]
    · have e : n + 1 = p * (n / p + 1) := by rw [Nat.mul_add]; omega
      rw [e, Nat.mul_mod_right]
theorem lucas1 (h : Pm p) : ∀ n k : Nat, ch n k % p = Lc p n k % p
  | 0, 0 => by
    unfold Lc
    simp [ch_zero]
  | 0, k + 1 => by
    have hp := h.two
    have e : ch 0 (k + 1) = 0 := rfl
    rw [e]
    unfold Lc
    rw [Nat.zero_div, Nat.zero_mod]
    have h1 := Nat.div_add_mod (k + 1) p
    by_cases hz : (k + 1) / p = 0
    · rw [hz, Nat.mul_zero] at h1
      rw [ch_gt (n := 0) (k := (k + 1) % p) (by omega), Nat.mul_zero, Nat.zero_mod]
    · rw [ch_gt (n := 0) (k := (k + 1) / p) (Nat.pos_of_ne_zero hz), Nat.zero_mul, Nat.zero_mod]
  | n + 1, 0 => by
    unfold Lc
    rw [Nat.zero_div, Nat.zero_mod, ch_zero, ch_zero, ch_zero]
  | n + 1, k + 1 => by
    have hp := h.two
    have e : ch (n + 1) (k + 1) = ch n k + ch n (k + 1) := rfl
    rw [e, Nat.add_mod, lucas1 h n k, lucas1 h n (k + 1), ← Nat.add_mod]
    unfold Lc
    have hb := Nat.mod_lt n (show 0 < p by omega)
    have hd := Nat.mod_lt k (show 0 < p by omega)
    rcases dm_succ (p := p) (by omega) n with ⟨n1, n2, n3⟩ | ⟨n1, n2, n3⟩ <;> rcases dm_succ (p := p) (by omega) k with ⟨k1, k2, k3⟩ | ⟨k1, k2, k3⟩ <;> rw [n2, n3, k2, k3]
    · have e2 : ch (n % p + 1) (k % p + 1) = ch (n % p) (k % p) + ch (n % p) (k % p + 1) := rfl
      rw [e2, Nat.mul_add]
    · rw [ch_zero, ch_zero, ch_gt (n := n % p) (k := k % p) (by omega)]
      simp
    · have e2 : ch 0 (k % p + 1) = 0 := rfl
      rw [e2, Nat.mul_zero, ← Nat.mul_add]
      have e3 : ch (n % p) (k % p) + ch (n % p) (k % p + 1) = ch p (k % p + 1) := by
        have : ch (n % p + 1) (k % p + 1) = ch (n % p) (k % p) + ch (n % p) (k % p + 1) := rfl
        rw [← this, n1]
      rw [e3, Nat.mul_mod, ch_p h (by omega) k1, Nat.mul_zero]
    · rw [ch_zero, ch_zero, Nat.mul_one, Nat.mul_one]
      have e4 : n % p = k % p := by omega
      rw [← e4, ch_self]
      have e2 : ch (n / p + 1) (k / p + 1) = ch (n / p) (k / p) + ch (n / p) (k / p + 1) := rfl
      rw [e2, Nat.mul_one]
/-! digits -/
def dgF (p : Nat) : Nat → Nat → List Nat
  | 0, _ => []
  | f + 1, n => if n = 0 then [] else n % p :: dgF p f (n / p)
def dg (p n : Nat) : List Nat := dgF p 64 n
def d2F (p : Nat) : Nat → Nat → Nat → List (Nat × Nat)
  | 0, _, _ => []
  | f + 1, a, b => if a = 0 ∧ b = 0 then [] else (a % p, b % p) :: d2F p f (a / p) (b / p)
def d2 (p a b : Nat) : List (Nat × Nat) := d2F p 64 a b
theorem half {f n : Nat} (hp : 2 ≤ p) (h : n < 2 ^ (f + 1)) : n / p < 2 ^ f := by
  rw [Nat.div_lt_iff_lt_mul (by omega)]
  rw [Nat.pow_succ] at h
  exact Nat.lt_of_lt_of_le h (Nat.mul_le_mul_left _ hp)
theorem dgF_zero (f : Nat) : dgF p f 0 = [] := by cases f <;> simp [dgF]
theorem dgF_len : ∀ (f n : Nat), (dgF p f n).length ≤ f
  | 0, _ => Nat.le_refl _
  | f + 1, n => by
    rw [dgF]
    split
    · simp
    · have := dgF_len f (n / p)
      simp
      omega
theorem dgF_lt (hp : 0 < p) : ∀ (f n : Nat), ∀ x ∈ dgF p f n, x < p
  | 0, _, x, h => by cases h
  | f + 1, n, x, h => by
    rw [dgF] at h
    split at h
    · cases h
    · rcases List.mem_cons.mp h with e | e
      · rw [e]
        exact Nat.mod_lt _ hp
      · exact dgF_lt hp f _ x e
theorem d2F_lt (hp : 0 < p) : ∀ (f a b : Nat), ∀ x ∈ d2F p f a b, x.1 < p ∧ x.2 < p
  | 0, _, _, x, h => by cases h
  | f + 1, a, b, x, h => by
    rw [d2F] at h
    split at h
    · cases h
    · rcases List.mem_cons.mp h with e | e
      · rw [e]
        exact ⟨Nat.mod_lt _ hp, Nat.mod_lt _ hp⟩
      · exact d2F_lt hp f _ _ x e
theorem d2F_len : ∀ (f a b : Nat), (d2F p f a b).length ≤ f
  | 0, _, _ => Nat.le_refl _
  | f + 1, a, b => by
    rw [d2F]
    split
    · simp
    · have := d2F_len f (a / p) (b / p)
      simp
      omega
/-- one list with noughts behind, beside another -/
def zpad : List Nat → List Nat → List (Nat × Nat)
  | [], [] => []
  | x :: xs, [] => (x, 0) :: zpad xs []
  | [], y :: ys => (0, y) :: zpad [] ys
  | x :: xs, y :: ys => (x, y) :: zpad xs ys
theorem zpad_dg : ∀ (f a b : Nat), zpad (dgF p f a) (dgF p f b) = d2F p f a b
  | 0, _, _ => by simp [dgF, d2F, zpad]
  | f + 1, a, b => by
    have ih := zpad_dg f (a / p) (b / p)
    rw [dgF, dgF, d2F]
    by_cases ha : a = 0
    · by_cases hb : b = 0
      · rw [if_pos ha, if_pos hb, if_pos ⟨ha, hb⟩]
        simp [zpad]
      · subst ha
        rw [if_pos rfl, if_neg hb, if_neg (fun z => hb z.2), zpad, Nat.zero_mod]
        rw [Nat.zero_div, dgF_zero] at ih
        rw [Nat.zero_div, ih]
    · by_cases hb : b = 0
      · subst hb
        rw [if_neg ha, if_pos rfl, if_neg (fun z => ha z.1), zpad, Nat.zero_mod]
        rw [Nat.zero_div, dgF_zero] at ih
        rw [Nat.zero_div, ih]
      · rw [if_neg ha, if_neg hb, if_neg (fun z => ha z.1), zpad, ih]
def cI : List Nat → List Int := fun xs => xs.map fun (k : Nat) => (k : Int)
def cI2 : List (Nat × Nat) → List (Int × Int) := fun xs => xs.map fun q => ((q.1 : Int), (q.2 : Int))
theorem rep0 (m : Nat) : repL [(0:Int)] (m : Int) = List.replicate m 0 := by
  unfold repL
  rw [Int.toNat_natCast, List.flatten_replicate_singleton]
theorem zip_pad : ∀ (xs ys : List Nat), List.zip (cI xs ++ List.replicate (ys.length - xs.length) (0:Int)) (cI ys ++ List.replicate (xs.length - ys.length) (0:Int)) = cI2 (zpad xs ys)
  | [], [] => by simp [zpad, cI, cI2]
  | x :: xs, [] => by
    have ih := zip_pad xs []
    rw [List.length_nil, Nat.zero_sub, List.replicate_zero, List.append_nil, Nat.sub_zero] at ih
    rw [zpad, List.length_nil, Nat.zero_sub, List.replicate_zero, List.append_nil, Nat.sub_zero, List.length_cons, List.replicate_succ]
    show ((x : Int), (0:Int)) :: List.zip (cI xs) ([] ++ List.replicate xs.length (0:Int)) = ((x : Int), (0:Int)) :: cI2 (zpad xs [])
    rw [List.nil_append]
    have ih : List.zip (cI xs) ([] ++ List.replicate xs.length (0:Int)) = _ := ih
    rw [List.nil_append] at ih
    rw [ih]
  | [], y :: ys => by
    have ih := zip_pad [] ys
    rw [List.length_nil, Nat.zero_sub, List.replicate_zero, List.append_nil, Nat.sub_zero] at ih
    rw [zpad, List.length_nil, Nat.zero_sub, List.replicate_zero, List.append_nil, Nat.sub_zero, List.length_cons, List.replicate_succ]
    show ((0:Int), (y : Int)) :: List.zip (List.replicate ys.length (0:Int)) (cI ys) = ((0:Int), (y : Int)) :: cI2 (zpad [] ys)
    have ih : List.zip ([] ++ List.replicate ys.length (0:Int)) (cI ys) = _ := ih
    rw [List.nil_append] at ih
    rw [ih]
  | x :: xs, y :: ys => by
    have ih := zip_pad xs ys
    rw [zpad, List.length_cons, List.length_cons, Nat.add_sub_add_right, Nat.add_sub_add_right]
    show ((x : Int), (y : Int)) :: List.zip (cI xs ++ _) (cI ys ++ _) = ((x : Int), (y : Int)) :: cI2 (zpad xs ys)
    rw [ih]
/-! runs -/
theorem modC (a b : Nat) : ((a : Int) % (b : Int)) = ((a % b : Nat) : Int) := rfl
theorem divC (a b : Nat) : ((a : Int) / (b : Int)) = ((a / b : Nat) : Int) := rfl
theorem divOk_p (h : Pm p) : divOk (p : Int) = true := divOk_of 64 (by have := h.two; omega) (by have := h.le; omega) (by omega)
theorem wh_digits (h : Pm p) : ∀ (f n : Nat) (acc : List Int), n < 2 ^ f → acc.length + f ≤ 1000 → whM (fun (s1 : Int × (List Int)) =>  some (decide ((0:Int) < s1.1))) (fun (s1 : Int × (List Int)) => gd (0 < (p : Int)) <| gd ((s1.2).length < 16777216) <| lt ((s1.2 ++ [(s1.1 % (p : Int))]) : (List Int)) fun w7 => gd (divOk (p : Int) = true) <| lt ((s1.1 / (p : Int)) : Int) fun w9 => some (w9, w7)) (f + 1) ((n : Int), acc) = some (0, acc ++ cI (dgF p f n))
  | 0, n, acc, hn, _ => by
    have e : n = 0 := by simp at hn; omega
    subst e
    rw [dgF, show cI [] = [] from rfl, List.append_nil]
    rfl
  | f + 1, n, acc, hn, hl => by
    have hp := h.two
    by_cases hz : n = 0
    · subst hz
      rw [dgF_zero, show cI [] = [] from rfl, List.append_nil]
      rfl
    · have ih := wh_digits h f (n / p) (acc ++ [((n % p : Nat) : Int)]) (half hp hn) (by simp; omega)
      show (match decide ((0:Int) < (n : Int)) with | true => bd (gd (0 < (p : Int)) (gd (acc.length < 16777216) (lt (acc ++ [((n : Int) % (p : Int))]) _))) _ | false => _) = _
      rw [decide_eq_true (show (0:Int) < (n : Int) by omega)]
      show bd (gd (0 < (p : Int)) (gd (acc.length < 16777216) (lt (acc ++ [((n : Int) % (p : Int))]) _))) _ = _
      rw [gd_eq (by omega), gd_eq (by omega)]
      show bd (gd (divOk (p : Int) = true) (some ((n : Int) / (p : Int), acc ++ [((n : Int) % (p : Int))]))) _ = _
      rw [gd_eq (divOk_p h), bd_eq, dgF, if_neg hz]
      have e : acc ++ cI (n % p :: dgF p f (n / p)) = (acc ++ [((n % p : Nat) : Int)]) ++ cI (dgF p f (n / p)) := by
        rw [List.append_assoc]
        rfl
      rw [e]
      exact ih
theorem big18 {n : Nat} (h : n ≤ 1000000000000000000) : n < 2 ^ 64 := by omega
theorem r_digitsOf (h : Pm p) {n : Nat} (hn : n < 2 ^ 64) : t_digits_of (p : Int) (n : Int) = some (cI (dg p n)) := by
  unfold t_digits_of
  have z := whM_mono (n := nF) (show 64 + 1 ≤ 1000 by omega) (wh_digits h 64 n [] hn (by simp))
  rw [z]
  rfl
theorem fr_digits (h : Pm p) : ∀ (its : List Int) (n : Nat) (acc : List Int), acc.length + its.length ≤ 1000 → n < 2 ^ its.length → forM (fun (a1 : Int) (s2 : (List Int) × Int) => bd (if (decide ((0:Int) < s2.2)) = true then gd (0 < (p : Int)) <| gd ((s2.1).length < 16777216) <| lt ((s2.1 ++ [(s2.2 % (p : Int))]) : (List Int)) fun w9 => gd (divOk (p : Int) = true) <| lt ((s2.2 / (p : Int)) : Int) fun w11 => some (w9, w11) else some (s2.1, s2.2)) fun v5 => some (v5.1, v5.2)) its (acc, (n : Int)) = some (acc ++ cI (dgF p its.length n), 0)
  | [], n, acc, _, hn => by
    have e : n = 0 := by simp at hn; omega
    subst e
    show some (acc, ((0 : Nat) : Int)) = some (acc ++ [], 0)
    rw [List.append_nil]
    rfl
  | a :: its, n, acc, hl, hn => by
    have hp := h.two
    rw [List.length_cons] at hl hn
    by_cases hz : n = 0
    · subst hz
      have ih := fr_digits h its 0 acc (by omega) (Nat.pow_pos (by omega))
      rw [dgF_zero] at ih
      show bd (bd (if (decide ((0:Int) < ((0 : Nat) : Int))) = true then _ else some (acc, ((0 : Nat) : Int))) _) _ = _
      rw [if_neg (by simp), List.length_cons, dgF_zero]
      exact ih
    · have ih := fr_digits h its (n / p) (acc ++ [((n % p : Nat) : Int)]) (by simp; omega) (half hp hn)
      show bd (bd (if (decide ((0:Int) < (n : Int))) = true then gd (0 < (p : Int)) (gd (acc.length < 16777216) (lt (acc ++ [((n : Int) % (p : Int))]) _)) else _) _) _ = _
      rw [if_pos (by rw [decide_eq_true_eq]; omega), gd_eq (by omega), gd_eq (by omega)]
      show bd (bd (gd (divOk (p : Int) = true) (some (acc ++ [((n : Int) % (p : Int))], (n : Int) / (p : Int)))) _) _ = _
      rw [gd_eq (divOk_p h), bd_eq, bd_eq, List.length_cons, dgF, if_neg hz]
      have e : acc ++ cI (n % p :: dgF p its.length (n / p)) = (acc ++ [((n % p : Nat) : Int)]) ++ cI (dgF p its.length (n / p)) := by
        rw [List.append_assoc]
        rfl
      rw [e]
      exact ih
theorem r_ldigits (h : Pm p) {n : Nat} (hn : n < 2 ^ 64) : t__law_digits (p : Int) (n : Int) = some (cI (dg p n)) := by
  unfold t__law_digits
  have e : (rng1 (64:Int)).length = 64 := rng1_len 64
  have z := fr_digits h (rng1 (64:Int)) n [] (by rw [e]; simp) (by rw [e]; exact hn)
  rw [z, e]
  rfl
theorem cI_len (xs : List Nat) : (cI xs).length = xs.length := List.length_map _
theorem cI2_len (xs : List (Nat × Nat)) : (cI2 xs).length = xs.length := List.length_map _
theorem both_tail {xs ys : List Nat} (h1 : xs.length ≤ 64) (h2 : ys.length ≤ 64) : (lt ((imax (((cI xs)).length : Int) (((cI ys)).length : Int)) : Int) fun w3 => gd (-1000000 ≤ (w3 - (((cI xs)).length : Int)) ∧ (w3 - (((cI xs)).length : Int)) ≤ 1000000 ∧ ([(0:Int)]).length * ((w3 - (((cI xs)).length : Int))).toNat ≤ 16777216) <| gd (((cI xs)).length + ((repL [(0:Int)] (w3 - (((cI xs)).length : Int)))).length ≤ 16777216) <| gd (-1000000 ≤ (w3 - (((cI ys)).length : Int)) ∧ (w3 - (((cI ys)).length : Int)) ≤ 1000000 ∧ ([(0:Int)]).length * ((w3 - (((cI ys)).length : Int))).toNat ≤ 16777216) <| gd (((cI ys)).length + ((repL [(0:Int)] (w3 - (((cI ys)).length : Int)))).length ≤ 16777216) <| some (List.zip ((cI xs) ++ (repL [(0:Int)] (w3 - (((cI xs)).length : Int)))) ((cI ys) ++ (repL [(0:Int)] (w3 - (((cI ys)).length : Int)))))) = some (cI2 (zpad xs ys)) := by
  show gd _ (gd _ (gd _ (gd _ (some _)))) = _
  have ex := cI_len xs
  have ey := cI_len ys
  have e1 : imax (((cI xs)).length : Int) (((cI ys)).length : Int) - ((cI xs).length : Int) = ((ys.length - xs.length : Nat) : Int) := by
    unfold imax
    split <;> omega
  have e2 : imax (((cI xs)).length : Int) (((cI ys)).length : Int) - ((cI ys).length : Int) = ((xs.length - ys.length : Nat) : Int) := by
    unfold imax
    split <;> omega
  rw [e1, e2, rep0, rep0, gd_eq ⟨by omega, by omega, by simp; omega⟩, gd_eq (by rw [List.length_replicate]; omega), gd_eq ⟨by omega, by omega, by simp; omega⟩, gd_eq (by rw [List.length_replicate]; omega), zip_pad]
theorem r_both (h : Pm p) {a b : Nat} (ha : a < 2 ^ 64) (hb : b < 2 ^ 64) : t_both_digits (p : Int) (a : Int) (b : Int) = some (cI2 (d2 p a b)) := by
  unfold t_both_digits
  rw [r_digitsOf h ha, bd_eq, r_digitsOf h hb, bd_eq]
  have z := both_tail (dgF_len (p := p) 64 a) (dgF_len (p := p) 64 b)
  rw [zpad_dg] at z
  exact z
theorem r_lplaces (h : Pm p) {a b : Nat} (ha : a < 2 ^ 64) (hb : b < 2 ^ 64) : t__law_places (p : Int) (a : Int) (b : Int) = some (cI2 (d2 p a b)) := by
  unfold t__law_places
  rw [r_ldigits h ha, bd_eq, r_ldigits h hb, bd_eq]
  have z := both_tail (dgF_len (p := p) 64 a) (dgF_len (p := p) 64 b)
  rw [zpad_dg] at z
  exact z
/-! rests of choices -/
def prC : List (Nat × Nat) → Nat
  | [] => 1
  | q :: r => ch q.1 q.2 * prC r
theorem prC_d2 (h : Pm p) : ∀ (f a b : Nat), a < 2 ^ f → b < 2 ^ f → prC (d2F p f a b) % p = ch a b % p
  | 0, a, b, ha, hb => by
    have e : a = 0 := by simp at ha; omega
    have e2 : b = 0 := by simp at hb; omega
    subst e
    subst e2
    rfl
  | f + 1, a, b, ha, hb => by
    rw [d2F]
    split
    · rename_i z
      rw [z.1, z.2]
      rfl
    · have ih := prC_d2 h f (a / p) (b / p) (half h.two ha) (half h.two hb)
      rw [prC, Nat.mul_mod, ih, ← Nat.mul_mod, lucas1 h a b]
      unfold Lc
      rw [Nat.mul_comm]
/-- the choices' rest -/
def rst (p n k : Nat) : Int := ((ch n k % p : Nat) : Int)
theorem fr_rest {g : Int → Int → Option Int} (h : Pm p) (hg : ∀ n k : Nat, n < p → k < p → g (n : Int) (k : Int) = some (ch n k : Int)) : ∀ (L : List (Nat × Nat)) (t : Nat), (∀ x ∈ L, x.1 < p ∧ x.2 < p) → forM (fun (a2 : (Int × Int)) (s3 : Int) => bd (g a2.1 a2.2) fun r6 => gd (mulOk s3 r6 = true) <| gd (0 < (p : Int)) <| lt (((s3 * r6) % (p : Int)) : Int) fun w9 => some w9) (cI2 L) ((t % p : Nat) : Int) = some (((t * prC L) % p : Nat) : Int)
  | [], t, _ => by
    show some _ = some _
    rw [prC, Nat.mul_one]
  | q :: L, t, hL => by
    have hp := h.two
    have hle := h.le
    have hq := hL q List.mem_cons_self
    have ih := fr_rest h hg L (t * ch q.1 q.2) fun x hx => hL x (List.mem_cons_of_mem _ hx)
    show bd (bd (g (q.1 : Int) (q.2 : Int)) _) _ = _
    rw [hg _ _ hq.1 hq.2, bd_eq]
    have m1 : mulOk ((t % p : Nat) : Int) (ch q.1 q.2 : Int) = true := by
      refine mulOk_of 64 (64 * 97 + 1) (by have := Nat.mod_lt t (show 0 < p by omega); omega) ?_ (by omega)
      rw [Int.natAbs_natCast]
      have b1 : ch q.1 q.2 ≤ 2 ^ (64 * q.2) := Nat.le_trans (ch_le q.1 q.2) (pow_lt_bits (by omega) q.2)
      have b2 : (2 : Nat) ^ (64 * q.2) < 2 ^ (64 * 97 + 1) := Nat.pow_lt_pow_right (by omega) (by omega)
      omega
    rw [gd_eq m1, gd_eq (by omega)]
    show bd (some ((((t % p : Nat) : Int) * (ch q.1 q.2 : Int)) % (p : Int))) _ = _
    rw [bd_eq]
    have e : (((t % p : Nat) : Int) * (ch q.1 q.2 : Int)) % (p : Int) = ((t * ch q.1 q.2 % p : Nat) : Int) := by
      rw [← Int.natCast_mul, modC, Nat.mod_mul_mod]
    rw [e, prC, ← Nat.mul_assoc]
    exact ih
theorem rest_eq (h : Pm p) {n k : Nat} (hn : n < 2 ^ 64) (hk : k < 2 ^ 64) : (((1 * prC (d2 p n k)) % p : Nat) : Int) = rst p n k := by
  unfold rst d2
  rw [Nat.one_mul, prC_d2 h 64 n k hn hk]
theorem one_mod (h : Pm p) : ((1 % p : Nat) : Int) = 1 := by
  rw [Nat.mod_eq_of_lt (by have := h.two; omega)]
  rfl
theorem r_restOf (h : Pm p) {n k : Nat} (hn : n < 2 ^ 64) (hk : k < 2 ^ 64) : t_rest_of (p : Int) (n : Int) (k : Int) = some (rst p n k) := by
  unfold t_rest_of
  have hle := h.le
  have z := fr_rest (g := t_choose_of) h (fun n k hn hk => r_choose (by omega) (by omega)) (d2 p n k) 1 (d2F_lt (by have := h.two; omega) 64 n k)
  rw [one_mod h, rest_eq h hn hk] at z
  rw [r_both h hn hk, bd_eq, z]
  rfl
theorem r_lrest (h : Pm p) {n k : Nat} (hn : n < 2 ^ 64) (hk : k < 2 ^ 64) : forM (fun (a2 : (Int × Int)) (s3 : Int) => bd (t__law_choose a2.1 a2.2) fun r6 => gd (mulOk s3 r6 = true) <| gd (0 < (p : Int)) <| lt (((s3 * r6) % (p : Int)) : Int) fun w9 => some w9) (cI2 (d2 p n k)) (1:Int) = some (rst p n k) := by
  have hle := h.le
  have z := fr_rest (g := t__law_choose) h (fun n k hn hk => r_lchoose (by omega) (by omega)) (d2 p n k) 1 (d2F_lt (by have := h.two; omega) 64 n k)
  rw [one_mod h, rest_eq h hn hk] at z
  exact z
/-! what is passed -/
theorem r_wantPrime (h : Pm p) : t_want_prime (p : Int) = some () := by
  have hp := h.two
  have hle := h.le
  unfold t_want_prime
  rw [r_withinT ⟨by omega, by omega⟩, bd_eq, gd_eq rfl, gd_eq ⟨⟨by omega, by omega⟩, ⟨by omega, by omega⟩⟩, gd_eq (by unfold rng2; simp; omega), mpM_of (g := fun _ => true) fun a ha => ?_, bd_eq, gd_eq]
  · rw [List.all_eq_true]
    intro x hx
    rw [List.mem_map] at hx
    obtain ⟨_, _, e⟩ := hx
    rw [← e]
    rfl
  · unfold rng2 at ha
    rw [List.mem_map] at ha
    obtain ⟨i, hi, e⟩ := ha
    rw [List.mem_range] at hi
    have e2 : a = ((2 + i : Nat) : Int) := by omega
    rw [e2, gd_eq (by omega), modC]
    have : ¬ (((p % (2 + i) : Nat) : Int) = 0) := fun z => by
      have z : p % (2 + i) = 0 := by omega
      rcases h.pr (2 + i) (by omega) z with q | q <;> omega
    rw [decide_eq_false this]
    rfl
theorem r_wantGreat {n : Nat} (h : n ≤ 1000000000000000000) : t_want_great (n : Int) = some () := by
  unfold t_want_great
  rw [r_withinT ⟨by omega, by omega⟩, bd_eq, gd_eq rfl]
theorem r_wantMany {n : Nat} (h : n ≤ 200) : t_want_many (n : Int) = some () := by
  unfold t_want_many
  rw [r_withinT ⟨by omega, by omega⟩, bd_eq, gd_eq rfl]
theorem r_wantSome {n : Nat} (h : n ≤ 200) : t_want_some (n : Int) = some () := by
  unfold t_want_some
  rw [r_withinT ⟨by omega, by omega⟩, bd_eq, gd_eq rfl]
theorem r_wantChoice (h : Pm p) {a b : Nat} (ha : a ≤ 1000000000000000000) (hb : b ≤ 1000000000000000000) : t_want_choice (p : Int) (a : Int) (b : Int) = some () := by
  unfold t_want_choice
  rw [r_wantPrime h, bd_eq, r_wantGreat ha, bd_eq, r_wantGreat hb]
  rfl
theorem r_choiceRest (h : Pm p) {a b : Nat} (ha : a ≤ 1000000000000000000) (hb : b ≤ 1000000000000000000) : t_choice_rest (p : Int) (a : Int) (b : Int) = some (rst p a b) := by
  unfold t_choice_rest
  rw [r_wantChoice h ha hb, bd_eq, r_restOf h (big18 ha) (big18 hb)]
  rfl
theorem r_digits (h : Pm p) {n : Nat} (hn : n ≤ 1000000000000000000) : t_digits (p : Int) (n : Int) = some (cI (dg p n)) := by
  unfold t_digits
  rw [r_wantPrime h, bd_eq, r_wantGreat hn, bd_eq, r_digitsOf h (big18 hn)]
  rfl
def dsum (p n : Nat) : Nat := (dg p n).sum
theorem cI_sum : ∀ xs : List Nat, (cI xs).sum = ((xs.sum : Nat) : Int)
  | [] => rfl
  | x :: xs => by
    show (x : Int) + (cI xs).sum = _
    rw [cI_sum xs, List.sum_cons, Int.natCast_add]
theorem r_digitSum (h : Pm p) {n : Nat} (hn : n ≤ 1000000000000000000) : t_digit_sum (p : Int) (n : Int) = some (dsum p n : Int) := by
  unfold t_digit_sum
  rw [r_wantPrime h, bd_eq, r_wantGreat hn, bd_eq, r_digitsOf h (big18 hn), bd_eq, cI_sum]
  rfl
theorem r_chooseW {n k : Nat} (hn : n ≤ 200) (hk : k ≤ 200) : t_choose (n : Int) (k : Int) = some (ch n k : Int) := by
  unfold t_choose
  rw [r_wantMany hn, bd_eq, r_wantSome hk, bd_eq, r_choose (by omega) (by omega)]
  rfl
end
end Pd

/-! sums going on, papers of degrees -/
namespace Pd
open PySem PySem.Spec PyProof.Rows L2
theorem Ok.lt {α β : Type} {a : α} {k : α → Option β} {Q : β → Prop} (h : Ok (k a) Q) : Ok (Pd.lt a k) Q := h
theorem Ok.bdE {α β : Type} {o : Option α} {a : α} {k : α → Option β} {Q : β → Prop} (e : o = some a) (h : Ok (k a) Q) : Ok (Pd.bd o k) Q := by
  rw [e]
  exact h
theorem r_continued {q : Sq Int} {m : Nat} (hs : smallN q.l) (hm : m ≤ 60) : t_continued q (m : Int) = some ((List.range m).map fun i => nw (backs q.l) (q.l.length + i)) := by
  unfold t_continued
  have h60 := hs.1
  have hbl := backs_len q.l
  have hsl := strip_len (backs q.l)
  have hbb : ∀ x ∈ backs q.l, Pd.big x := fun x hx => by
    obtain ⟨i, hi, e⟩ := List.getElem_of_mem hx
    have e2 : gt (backs q.l) i = x := gt_get (by rw [List.getElem?_eq_getElem hi, e])
    have h3 := nw_abs (xs := sg q.l) (b := 1000000000000) (p := i) (c := 2 ^ 3600) (m := 60) (fun y hy => by
      obtain ⟨j, hj, ej⟩ := List.getElem_of_mem hy
      have e3 : gt (sg q.l) j = y := gt_get (by rw [List.getElem?_eq_getElem hj, ej])
      rw [← e3, gt_sg, sgn_abs]
      have := hs.2 _ (gt_mem (xs := q.l) (k := j) (by rw [sg_len] at hj; exact hj))
      omega) (by rw [sg_len]; omega) (fun k hk => by
        rw [sg_len] at hk
        have h1 : i < 2 ^ 60 := by omega
        refine Nat.le_trans (ch_le i k) (Nat.le_trans (Nat.pow_le_pow_left (Nat.le_of_lt h1) k) ?_)
        rw [← Nat.pow_mul]
        exact Nat.pow_le_pow_right (by omega) (by omega))
    have e4 : x = sgn i (nw (sg q.l) i) := by
      rw [← e2]
      unfold backs
      rw [gt_sg]
      unfold sums
      rw [gt_vl (by rw [sg_len]; omega)]
    refine big_of (b := 3700) ?_
    rw [e4, sgn_abs]
    refine Nat.lt_of_le_of_lt h3 ?_
    calc 60 * (2 ^ 3600 * 1000000000000) ≤ 2 ^ 6 * (2 ^ 3600 * 2 ^ 40) := Nat.mul_le_mul (by decide) (Nat.mul_le_mul (Nat.le_refl _) (by decide))
      _ = 2 ^ 3646 := by rw [← Nat.pow_add, ← Nat.pow_add]
      _ < 2 ^ 3700 := Nat.pow_lt_pow_right (by omega) (by omega)
  rw [r_wantN hs, bd_eq, r_wantC (by omega), bd_eq, r_told (by omega) hs.big, bd_eq, gd_eq (ibd_nat (by omega)), gd_eq (by rw [rng1_len]; omega)]
  rw [mpM_rng (g := fun i => nw (backs q.l) (q.l.length + i)) fun i hi => by
    have e : ((q.l.length : Int) + (i : Int)) = ((q.l.length + i : Nat) : Int) := by omega
    rw [e, r_byHeads (q := ⟨false, strip (backs q.l)⟩) (by omega) (by show (strip (backs q.l)).length ≤ _; omega) (fun x hx => hbb x (strip_mem hx)), bd_eq, nw_strip]]
  rfl
/-- sums of the first none, one .. all -/
def psum (xs : List Int) : List Int := (List.range (xs.length + 1)).map fun i => (xs.take i).sum
theorem psum_len (xs : List Int) : (psum xs).length = xs.length + 1 := by
  unfold psum
  simp
theorem gt_psum {xs : List Int} {k : Nat} (h : k ≤ xs.length) : gt (psum xs) k = (xs.take k).sum := gt_range (by omega)
theorem psum_snoc (xs : List Int) (x : Int) : psum (xs ++ [x]) = psum xs ++ [xs.sum + x] := by
  unfold psum
  rw [List.length_append, List.length_singleton, List.range_succ, List.map_append]
  congr 1
  · refine List.map_congr_left fun i hi => ?_
    rw [List.mem_range] at hi
    rw [List.take_append_of_le_length (by omega)]
  · rw [List.map_singleton, List.take_of_length_le (by simp), List.sum_append]
    simp
theorem psum_last (xs : List Int) : L2.atI (psum xs) (-1) = some xs.sum := by
  have e : psum xs = ((List.range xs.length).map fun i => (xs.take i).sum) ++ [xs.sum] := by
    unfold psum
    rw [List.range_succ, List.map_append]
    congr 1
    rw [List.map_singleton, List.take_length]
  rw [e, at_last]
theorem fr_psum : ∀ (xs pre : List Int), (pre ++ xs).length ≤ 1000 → forM (fun (a3 : Int) (s4 : (List Int)) => bd (L2.atI s4 (-1:Int)) fun v7 => gd ((s4).length < 16777216) <| lt ((s4 ++ [(v7 + a3)]) : (List Int)) fun w9 => some w9) xs (psum pre) = some (psum (pre ++ xs))
  | [], pre, _ => by rw [List.append_nil]; rfl
  | x :: xs, pre, h => by
    have h2 : pre.length ≤ 1000 := by rw [List.length_append] at h; omega
    have ih := fr_psum xs (pre ++ [x]) (by rw [List.append_assoc]; exact h)
    rw [psum_snoc, List.append_assoc] at ih
    show bd (bd (L2.atI (psum pre) (-1:Int)) _) _ = _
    rw [psum_last, bd_eq, gd_eq (by rw [psum_len]; omega)]
    exact ih
theorem r_sumsRow {q : Sq Int} (hs : smallN q.l) : t_sums_row q = some (psum q.l) := by
  unfold t_sums_row
  have h60 := hs.1
  rw [r_wantN hs, bd_eq]
  show bd (forM _ q.l (psum [])) _ = _
  rw [fr_psum q.l [] (by rw [List.nil_append]; omega)]
  rfl
theorem take_sum_succ {xs : List Int} {k : Nat} (h : k < xs.length) : (xs.take (k + 1)).sum = (xs.take k).sum + gt xs k := by
  rw [List.take_add_one, List.sum_append, gt_some h]
  simp
theorem dif_psum (xs : List Int) : dif (psum xs) = xs := by
  refine ext_gt (by rw [dif_len, psum_len]; omega) fun k hk => ?_
  rw [dif_len, psum_len] at hk
  rw [gt_dif (by rw [psum_len]; omega), gt_psum (by omega), gt_psum (by omega), take_sum_succ (by omega)]
  omega
theorem backs_psum (xs : List Int) : backs (psum xs) = 0 :: backs xs := by
  refine ext_gt (by rw [backs_len, psum_len, List.length_cons, backs_len]) fun k hk => ?_
  rw [backs_len, psum_len] at hk
  rw [gt_backs (by rw [psum_len]; omega)]
  cases k with
  | zero =>
    show gt (psum xs) 0 = _
    rw [gt_psum (by omega)]
    rfl
  | succ k =>
    show _ = gt (backs xs) k
    rw [gt_backs (by omega), hd_shift]
    refine hd_congr fun j hj => ?_
    show gt (psum xs) (j + 1) - gt (psum xs) j = _
    rw [gt_psum (by omega), gt_psum (by omega), take_sum_succ (by omega)]
    omega
/-! where numbers are not 0 -/
def nz (xs : List Int) : List Int := ((enumT 0 xs).filter (fun (a : Int × Int) => !decide (a.2 = (0:Int)))).map fun a => a.1
def nzN : Nat → List Int → List Int
  | _, [] => []
  | k, x :: xs => if x = 0 then nzN (k + 1) xs else (k : Int) :: nzN (k + 1) xs
theorem nz_eq : ∀ (xs : List Int) (k : Nat), ((enumT k xs).filter (fun (a : Int × Int) => !decide (a.2 = (0:Int)))).map (fun a => a.1) = nzN k xs
  | [], _ => rfl
  | x :: xs, k => by
    have ih := nz_eq xs (k + 1)
    rw [enumT, List.filter_cons, nzN]
    by_cases h : x = 0
    · rw [if_neg (by simp [h]), if_pos h]
      exact ih
    · rw [if_pos (by simp [h]), if_neg h, List.map_cons, ih]
theorem nzN_append : ∀ (xs ys : List Int) (k : Nat), nzN k (xs ++ ys) = nzN k xs ++ nzN (k + xs.length) ys
  | [], ys, k => rfl
  | x :: xs, ys, k => by
    rw [List.cons_append, nzN, nzN, nzN_append xs ys (k + 1), List.length_cons, show k + 1 + xs.length = k + (xs.length + 1) by omega]
    split <;> rfl
theorem nzN_nil : ∀ (xs : List Int) (k : Nat), (∀ x ∈ xs, x = 0) → nzN k xs = []
  | [], _, _ => rfl
  | x :: xs, k, h => by
    rw [nzN, if_pos (h x List.mem_cons_self), nzN_nil xs (k + 1) fun y hy => h y (List.mem_cons_of_mem _ hy)]
/-- the last place that is not 0 -/
theorem nz_last (xs : List Int) : (nz xs = [] ∧ strip xs = []) ∨ (nz xs ≠ [] ∧ L2.atI (nz xs) (-1) = some (((strip xs).length : Int) - 1)) := by
  unfold nz
  rw [nz_eq xs 0]
  suffices h : ∀ (n : Nat) (xs : List Int), xs.length ≤ n → (nzN 0 xs = [] ∧ stripN n xs = []) ∨ (nzN 0 xs ≠ [] ∧ L2.atI (nzN 0 xs) (-1) = some (((stripN n xs).length : Int) - 1)) from h _ xs (Nat.le_refl _)
  intro n
  induction n with
  | zero =>
    intro xs h
    have : xs = [] := List.length_eq_zero_iff.mp (by omega)
    subst this
    exact .inl ⟨rfl, rfl⟩
  | succ n ih =>
    intro xs h
    rw [stripN]
    rcases List.eq_nil_or_concat xs with e | ⟨ys, y, e⟩
    · subst e
      rw [if_neg (by simp)]
      exact .inl ⟨rfl, rfl⟩
    · rw [List.concat_eq_append] at e
      subst e
      rw [nzN_append]
      rw [List.length_append, List.length_singleton] at h
      by_cases hy : y = 0
      · subst hy
        rw [if_pos (by simp), List.dropLast_concat]
        have e : nzN (0 + ys.length) [(0 : Int)] = [] := rfl
        rw [e, List.append_nil]
        exact ih ys (by omega)
      · rw [if_neg (by simpa using hy)]
        have e : nzN (0 + ys.length) [y] = [((0 + ys.length : Nat) : Int)] := by
          rw [nzN, if_neg hy]
          rfl
        rw [e, at_last]
        refine .inr ⟨by simp, ?_⟩
        congr 1
        simp
theorem nz_nil {xs : List Int} : nz xs = [] ↔ ∀ x ∈ xs, x = 0 := by
  unfold nz
  rw [nz_eq xs 0]
  constructor
  · intro h
    have gen : ∀ (xs : List Int) (k : Nat), nzN k xs = [] → ∀ x ∈ xs, x = 0 := by
      intro xs
      induction xs with
      | nil => intro k h x hx; cases hx
      | cons y ys ih =>
        intro k h x hx
        rw [nzN] at h
        split at h
        · rename_i hy
          rcases List.mem_cons.mp hx with e | e
          · rw [e]
            exact hy
          · exact ih _ h x e
        · cases h
    exact gen xs 0 h
  · exact nzN_nil xs 0
/-- the first one -/
theorem nz_first {xs : List Int} (h : nz xs ≠ []) : ∃ i : Nat, L2.atI (nz xs) 0 = some (i : Int) ∧ i < xs.length ∧ gt xs i ≠ 0 := by
  unfold nz at h ⊢
  rw [nz_eq xs 0] at h ⊢
  have gen : ∀ (xs : List Int) (k : Nat), nzN k xs ≠ [] → ∃ i : Nat, L2.atI (nzN k xs) 0 = some ((k + i : Nat) : Int) ∧ i < xs.length ∧ gt xs i ≠ 0 := by
    intro xs
    induction xs with
    | nil => intro k h; exact absurd rfl h
    | cons y ys ih =>
      intro k h
      rw [nzN] at h ⊢
      split
      · rename_i hy
        rw [if_pos hy] at h
        obtain ⟨i, h1, h2, h3⟩ := ih (k + 1) h
        exact ⟨i + 1, by rw [h1]; congr 2; omega, by rw [List.length_cons]; omega, h3⟩
      · rename_i hy
        exact ⟨0, at_0, by simp, hy⟩
  obtain ⟨i, h1, h2, h3⟩ := gen xs 0 h
  exact ⟨i, by rw [h1, Nat.zero_add], h2, h3⟩
/-- so many heads and one tell all exactly if the next difference row is 0 -/
theorem degree_iff {xs : List Int} {d : Nat} : (strip (backs xs)).length ≤ d ↔ ∀ x ∈ difN d xs, x = 0 := by
  rw [strip_le]
  constructor
  · intro h x hx
    obtain ⟨i, hi, e⟩ := List.getElem_of_mem hx
    have e2 : gt (difN d xs) i = x := gt_get (by rw [List.getElem?_eq_getElem hi, e])
    rw [difN_len] at hi
    rw [← e2, gt_difN (by omega)]
    have e3 : Dn d (gt xs) i = Dn d (N (gt (backs xs))) i := Dn_congr d fun k hk => by
      rw [← nw_N, newton_l (by omega)]
    rw [e3, Dn_N]
    have : N (fun k => gt (backs xs) (k + d)) i = sZ (fun _ => 0) (i + 1) := sZ_congr fun k _ => by dsimp only; rw [h (k + d) (by omega), Int.mul_zero]
    rw [this]
    exact sZ_zero fun _ _ => rfl
  · intro h k hk
    by_cases hl : k < xs.length
    · rw [gt_backs hl]
      obtain ⟨j, rfl⟩ : ∃ j, k = d + j := ⟨k - d, by omega⟩
      have e : hd (gt xs) (d + j) = Dn j (Dn d (gt xs)) 0 := by
        unfold hd
        clear h hk hl
        induction j with
        | zero => rfl
        | succ j ih =>
          have gen : ∀ (j : Nat) (y : Nat → Int), Dn (d + j) y = Dn j (Dn d y) := by
            intro j
            induction j with
            | zero => intro y; rfl
            | succ j ih2 => intro y; show Df (Dn (d + j) y) = Df (Dn j (Dn d y)); rw [ih2]
          rw [gen]
      rw [e, Dn_congr (y := fun _ => 0) j fun i hi => ?_]
      · clear e h hk hl
        have gen : ∀ (j i : Nat), Dn j (fun _ => 0) i = 0 := by
          intro j
          induction j with
          | zero => intro i; rfl
          | succ j ih => intro i; show Dn j (fun _ => 0) (i + 1) - Dn j (fun _ => 0) i = 0; rw [ih, ih]; rfl
        exact gen j 0
      · rw [← gt_difN (by omega)]
        exact h _ (gt_mem (by rw [difN_len]; omega))
    · exact gt_none (by rw [backs_len]; omega)
def paper (xs : List Int) (d : Nat) : Str × PyData := if (strip (backs xs)).length ≤ d + 1 then ("heads", .list (encL (strip (backs xs)))) else ("place", match L2.atI (nz (difN (d + 1) xs)) 0 with | some i => .int i | none => .none)
theorem nz_def (xs : List Int) : (((enumT 0 xs)).filter (fun (a13 : (Int × Int)) => (!decide (a13.2 = (0:Int))))).map (fun (a13 : (Int × Int)) => a13.1) = nz xs := rfl
theorem fr_dif {xs : List Int} (hl : xs.length ≤ 10000) (n : Nat) : forM (fun (a6 : Int) (s7 : (List Int)) => bd (t_row_below (Sq.mk false s7)) fun r10 => some r10) (rng1 (n : Int)) xs = some (difN n xs) :=
  forM_rng (fun i => difN i xs) fun i hi => by
    rw [r_rowBelow (q := ⟨false, difN i xs⟩) (by show (difN i xs).length ≤ _; rw [difN_len]; omega)]
    rfl
theorem r_degreePaper {q : Sq Int} {d : Nat} (hs : smallN q.l) (hd : d ≤ 60) : t_degree_paper q (d : Int) = some (paper q.l d) := by
  unfold t_degree_paper
  have h60 := hs.1
  rw [r_wantN hs, bd_eq, r_wantC (by omega), bd_eq, r_told (by omega) hs.big, bd_eq]
  unfold paper
  by_cases h : (strip (backs q.l)).length ≤ d + 1
  · rw [if_pos (by rw [decide_eq_true_eq]; omega), if_pos h]
  · rw [if_neg (by rw [decide_eq_true_eq]; omega), if_neg h]
    have e : ((d : Int) + (1:Int)) = ((d + 1 : Nat) : Int) := by omega
    rw [e, gd_eq (ibd_nat (by omega)), fr_dif (by omega), bd_eq, gd_eq (by rw [enumT_len, difN_len]; omega), nz_def]
    have hn : nz (difN (d + 1) q.l) ≠ [] := fun z => h (degree_iff.mpr (nz_nil.mp z))
    obtain ⟨i, h1, _, _⟩ := nz_first hn
    rw [h1]
    rfl
theorem r_tuple2 (x y : PyData) : t_is_tuple (.tuple [x, y]) 2 = some true := by
  unfold t_is_tuple
  rw [gd_eq (show plainD (.tuple [x, y]) = true from rfl)]
  rfl
theorem r_doTell {h q : Sq Int} (hl : q.l.length ≤ 1000) (hh : h.l.length ≤ 1000) (hb : ∀ x ∈ h.l, Pd.big x) (ht : ∀ k, k < q.l.length → nw h.l k = gt q.l k) : t_do_tell h q = some true := by
  unfold t_do_tell
  rw [gd_eq (by rw [enumT_len]; omega), mpM_of (g := fun _ => true) fun a ha => by
    obtain ⟨i, e, h2⟩ := enumT_mem ha
    obtain ⟨a1, a2⟩ := a
    dsimp only at e h2 ⊢
    rw [Nat.zero_add] at e
    subst e
    have hi := (List.getElem?_eq_some_iff.mp h2).1
    rw [r_byHeads (by omega) hh hb, bd_eq, ht i hi, gt_get h2, decide_eq_true rfl]]
  rw [bd_eq]
  congr 1
  rw [List.all_eq_true]
  intro x hx
  rw [List.mem_map] at hx
  obtain ⟨_, _, e⟩ := hx
  rw [← e]
  rfl
theorem backs_big {xs : List Int} (hs : smallN xs) : ∀ x ∈ backs xs, Pd.big x ∧ x.natAbs < 2 ^ 3700 := fun x hx => by
  have h60 := hs.1
  obtain ⟨i, hi, e⟩ := List.getElem_of_mem hx
  rw [backs_len] at hi
  have e2 : gt (backs xs) i = x := gt_get (by rw [List.getElem?_eq_getElem (by rw [backs_len]; exact hi), e])
  have h3 := nw_abs (xs := sg xs) (b := 1000000000000) (p := i) (c := 2 ^ 3600) (m := 60) (fun y hy => by
    obtain ⟨j, hj, ej⟩ := List.getElem_of_mem hy
    have e3 : gt (sg xs) j = y := gt_get (by rw [List.getElem?_eq_getElem hj, ej])
    rw [← e3, gt_sg, sgn_abs]
    have := hs.2 _ (gt_mem (xs := xs) (k := j) (by rw [sg_len] at hj; exact hj))
    omega) (by rw [sg_len]; omega) (fun k hk => by
      rw [sg_len] at hk
      have h1 : i < 2 ^ 60 := by omega
      refine Nat.le_trans (ch_le i k) (Nat.le_trans (Nat.pow_le_pow_left (Nat.le_of_lt h1) k) ?_)
      rw [← Nat.pow_mul]
      exact Nat.pow_le_pow_right (by omega) (by omega))
  have e4 : x = sgn i (nw (sg xs) i) := by
    rw [← e2]
    unfold backs
    rw [gt_sg]
    unfold sums
    rw [gt_vl (by rw [sg_len]; omega)]
  have hx2 : x.natAbs < 2 ^ 3700 := by
    rw [e4, sgn_abs]
    refine Nat.lt_of_le_of_lt h3 ?_
    calc 60 * (2 ^ 3600 * 1000000000000) ≤ 2 ^ 6 * (2 ^ 3600 * 2 ^ 40) := Nat.mul_le_mul (by decide) (Nat.mul_le_mul (Nat.le_refl _) (by decide))
      _ = 2 ^ 3646 := by rw [← Nat.pow_add, ← Nat.pow_add]
      _ < 2 ^ 3700 := Nat.pow_lt_pow_right (by omega) (by omega)
  exact ⟨big_of hx2, hx2⟩
theorem un_sq (xs : List Int) : (Un.un (.list (encL xs)) : Option (Sq Int)) = some ⟨false, xs⟩ := by
  show bd (unL (xs.map enc)) (fun l => some (Sq.mk false l)) = _
  rw [unL_ints]
  rfl
theorem all_ints (xs : List Int) : mpM (fun (a15 : PyData) => bd (t_is_integer a15) fun r17 => some r17) (encL xs) = some ((encL xs).map fun _ => true) := mpM_of fun a ha => by
  rw [List.mem_map] at ha
  obtain ⟨x, _, e⟩ := ha
  subst e
  show bd (t_is_integer (.int x)) _ = _
  rw [r_int]
  rfl
/-- what is told is judged so -/
theorem r_isDegreePaper {q : Sq Int} {d : Nat} (hs : smallN q.l) (hd : d ≤ 60) : t_is_degree_paper q (d : Int) (.tuple [.str (paper q.l d).1, (paper q.l d).2]) = some true := by
  unfold t_is_degree_paper
  have h60 := hs.1
  have hbl := backs_len q.l
  have hsl := strip_len (backs q.l)
  rw [r_wantN hs, bd_eq, r_wantC (by omega), bd_eq, r_tuple2, bd_eq]
  have i0 : idxD (.tuple [.str (paper q.l d).1, (paper q.l d).2]) (.int (0:Int)) = some (.str (paper q.l d).1) := rfl
  have i1 : idxD (.tuple [.str (paper q.l d).1, (paper q.l d).2]) (.int (1:Int)) = some (paper q.l d).2 := rfl
  rw [if_neg (by decide), i0, i1, bd_eq, gd_eq (show plainD (.str (paper q.l d).1) = true from rfl), bd_eq, if_neg (show ¬ (![Ty.str].any (isTy (PyData.str (paper q.l d).fst))) = true from fun z => nomatch z), bd_eq]
  have e : ((d : Int) + (1:Int)) = ((d + 1 : Nat) : Int) := by omega
  rw [e]
  by_cases h : (strip (backs q.l)).length ≤ d + 1
  · have e1 : paper q.l d = (("heads" : Str), PyData.list (encL (strip (backs q.l)))) := by unfold paper; rw [if_pos h]
    rw [e1]
    have c1 : cmpD .eq (.str ("heads" : Str)) (.str ("heads" : Str)) = some true := by
      show some (decide _) = _
      rw [decide_eq_true rfl]
    dsimp only
    rw [c1, bd_eq, if_pos rfl, bd_eq, show t_is_list (.list (encL (strip (backs q.l)))) = some true from r_listQ ⟨false, strip (backs q.l)⟩, bd_eq, if_neg (by decide), bd_eq]
    show bd (bd (bd (some (encL (strip (backs q.l)))) _) _) _ = _
    rw [bd_eq, bd_eq, gd_eq (by rw [List.length_map]; omega), all_ints, bd_eq]
    have ha : ((encL (strip (backs q.l))).map fun _ => true).all id = true := by
      rw [List.all_eq_true]
      intro x hx
      rw [List.mem_map] at hx
      obtain ⟨_, _, e⟩ := hx
      rw [← e]
      rfl
    rw [ha, bd_eq, if_neg (by decide), bd_eq]
    have hlen : lenD (.list (encL (strip (backs q.l)))) = some ((strip (backs q.l)).length : Int) := by
      show some (((strip (backs q.l)).map enc).length : Int) = _
      rw [List.length_map]
    rw [hlen, bd_eq, if_pos (by rw [decide_eq_true_eq]; omega), bd_eq, un_sq, bd_eq, r_doTell (by omega) (by show (strip (backs q.l)).length ≤ _; omega) (fun x hx => (backs_big hs x (strip_mem hx)).1) (fun k hk => by show nw (strip (backs q.l)) k = _; rw [nw_strip, newton_l hk])]
    rfl
  · have hn : nz (difN (d + 1) q.l) ≠ [] := fun z => h (degree_iff.mpr (nz_nil.mp z))
    obtain ⟨i, h1, h2, h3⟩ := nz_first hn
    have e1 : paper q.l d = (("place" : Str), PyData.int (i : Int)) := by unfold paper; rw [if_neg h, h1]
    rw [e1]
    have c1 : cmpD .eq (.str ("place" : Str)) (.str ("heads" : Str)) = some false := by
      show some (decide _) = _
      rw [decide_eq_false (by decide)]
    have c2 : cmpD .eq (.str ("place" : Str)) (.str ("place" : Str)) = some true := by
      show some (decide _) = _
      rw [decide_eq_true rfl]
    dsimp only
    rw [c1, bd_eq, if_neg (by decide), gd_eq (ibd_nat (by omega)), fr_dif (by omega), bd_eq, bd_eq, c2, bd_eq, if_pos rfl, bd_eq]
    rw [r_withinT (by omega), bd_eq, if_pos rfl, bd_eq]
    have hi : idxD (.list (encL (difN (d + 1) q.l))) (.int (i : Int)) = some (.int (gt (difN (d + 1) q.l) i)) := i_list (at_nat (gt_some h2))
    rw [hi, bd_eq]
    show bd (bd (bd (some (!decide (gt (difN (d + 1) q.l) i = 0))) _) _) _ = _
    rw [decide_eq_false h3]
    rfl
end Pd

/-! told papers of choices, rows of rests -/
namespace Pd
open PySem PySem.Spec PyProof.Rows L2
section
variable {p : Nat}
theorem Pm.pos (h : Pm p) : 0 < p := by have := h.two; omega
theorem cI_rev (xs : List Nat) : (cI xs).reverse = cI xs.reverse := by
  unfold cI
  rw [List.map_reverse]
theorem fr_horner (h : Pm p) : ∀ (f n : Nat), n < 2 ^ f → f ≤ 64 → forM (fun (a13 : Int) (s14 : Int) => gd (mulOk s14 (p : Int) = true) <| lt (((s14 * (p : Int)) + a13) : Int) fun w18 => some w18) (cI (dgF p f n)).reverse (0:Int) = some (n : Int)
  | 0, n, hn, _ => by
    have e : n = 0 := by simp at hn; omega
    subst e
    rfl
  | f + 1, n, hn, hf => by
    have ih := fr_horner h f (n / p) (half h.two hn) (by omega)
    rw [dgF]
    split
    · rename_i z
      rw [z]
      rfl
    · have e : (cI (n % p :: dgF p f (n / p))).reverse = (cI (dgF p f (n / p))).reverse ++ [((n % p : Nat) : Int)] := by
        show (((n % p : Nat) : Int) :: cI (dgF p f (n / p))).reverse = _
        rw [List.reverse_cons]
      rw [e, forM_append, ih, bd_eq]
      show bd (gd _ _) _ = _
      have hl := h.le
      have h2 : n / p < 2 ^ f := half h.two hn
      have h3 : (2 : Nat) ^ f ≤ 2 ^ 64 := Nat.pow_le_pow_right (by omega) (by omega)
      have h4 : n / p < 2 ^ 64 := Nat.lt_of_lt_of_le h2 h3
      rw [gd_eq (mulOk_of 64 7 (by rw [Int.natAbs_natCast]; exact h4) (by omega) (by omega))]
      show bd (some ((((n / p : Nat) : Int) * (p : Int)) + ((n % p : Nat) : Int))) _ = _
      rw [bd_eq]
      show some _ = some _
      rw [← Int.natCast_mul, ← Int.natCast_add, Nat.mul_comm, Nat.div_add_mod]
theorem dg_last (hp : 2 ≤ p) : ∀ (f n : Nat), n < 2 ^ f → dgF p f n = [] ∨ ∃ xs d, dgF p f n = xs ++ [d] ∧ 0 < d
  | 0, _, _ => .inl rfl
  | f + 1, n, hn => by
    rw [dgF]
    split
    · exact .inl rfl
    · rename_i hz
      rcases dg_last hp f (n / p) (half hp hn) with e | ⟨xs, d, e, hd⟩
      · refine .inr ⟨[], n % p, by rw [e]; rfl, ?_⟩
        have h1 := Nat.div_add_mod n p
        have h2 : n / p = 0 := by
          cases f with
          | zero =>
            have h3 : n / p < 1 := half hp hn
            exact Nat.lt_one_iff.mp h3
          | succ f =>
            rw [dgF] at e
            split at e
            · assumption
            · cases e
        rw [h2, Nat.mul_zero] at h1
        omega
      · exact .inr ⟨n % p :: xs, d, by rw [e]; rfl, hd⟩
theorem prC_zero (h : Pm p) : ∀ {L : List (Nat × Nat)}, (∀ x ∈ L, x.1 < p ∧ x.2 < p) → (p ∣ prC L ↔ ∃ q ∈ L, q.1 < q.2)
  | [], _ => by
    constructor
    · intro hd
      have := Nat.le_of_dvd (by decide) (show p ∣ 1 from hd)
      have := h.two
      omega
    · rintro ⟨q, hq, _⟩
      cases hq
  | q :: L, hL => by
    have ih := prC_zero h (L := L) fun x hx => hL x (List.mem_cons_of_mem _ hx)
    have hq := hL q List.mem_cons_self
    constructor
    · intro hd
      rcases h.dvd (show p ∣ ch q.1 q.2 * prC L from hd) with z | z
      · by_cases hlt : q.1 < q.2
        · exact ⟨q, List.mem_cons_self, hlt⟩
        · exact absurd z (ch_unit h hq.1 (by omega))
      · obtain ⟨x, hx, hl⟩ := ih.mp z
        exact ⟨x, List.mem_cons_of_mem _ hx, hl⟩
    · rintro ⟨x, hx, hl⟩
      show p ∣ ch q.1 q.2 * prC L
      rcases List.mem_cons.mp hx with e | e
      · subst e
        rw [ch_gt hl, Nat.zero_mul]
        exact Nat.dvd_zero p
      · exact Nat.dvd_mul_left_of_dvd (ih.mpr ⟨x, e, hl⟩) _
theorem rst_zero (h : Pm p) {a b : Nat} (ha : a < 2 ^ 64) (hb : b < 2 ^ 64) : rst p a b = 0 ↔ ∃ q ∈ d2 p a b, q.1 < q.2 := by
  have e := prC_d2 h 64 a b ha hb
  unfold d2
  rw [← prC_zero h (d2F_lt h.pos 64 a b)]
  unfold rst
  rw [← e, Nat.dvd_iff_mod_eq_zero]
  exact ⟨fun z => by omega, fun z => by omega⟩
theorem rst_nn (a b : Nat) : 0 ≤ rst p a b := by unfold rst; omega
theorem rst_lt (h : Pm p) (a b : Nat) : rst p a b < (p : Int) := by
  unfold rst
  have := Nat.mod_lt (ch a b) h.pos
  omega
def gplF (k : Nat) (L : List (Nat × Nat)) : List Int := ((enumT k (cI2 L)).filter (fun (a2 : (Int × (Int × Int))) => (decide (a2.2.1 < a2.2.2)))).map (fun (a2 : (Int × (Int × Int))) => a2.1)
def gpl (L : List (Nat × Nat)) : List Int := gplF 0 L
theorem gplF_cons (k : Nat) (q : Nat × Nat) (L : List (Nat × Nat)) : gplF k (q :: L) = if q.1 < q.2 then (k : Int) :: gplF (k + 1) L else gplF (k + 1) L := by
  show (List.filter _ (((k : Int), ((q.1 : Int), (q.2 : Int))) :: enumT (k + 1) (cI2 L))).map _ = _
  rw [List.filter_cons]
  by_cases hq : q.1 < q.2
  · rw [if_pos hq, if_pos (by rw [decide_eq_true_eq]; exact Int.ofNat_lt.mpr hq)]
    rfl
  · rw [if_neg hq, if_neg (by rw [decide_eq_true_eq]; exact fun z => hq (Int.ofNat_lt.mp z))]
    rfl
theorem gplF_mem : ∀ {L : List (Nat × Nat)} {k : Nat}, ∀ x ∈ gplF k L, (k : Int) ≤ x ∧ x < ((k + L.length : Nat) : Int)
  | [], k, x, hx => nomatch hx
  | q :: L, k, x, hx => by
    rw [gplF_cons] at hx
    have ih : ∀ x ∈ gplF (k + 1) L, _ := gplF_mem (L := L) (k := k + 1)
    rw [List.length_cons]
    split at hx
    · rcases List.mem_cons.mp hx with e | e
      · omega
      · have := ih x e
        omega
    · have := ih x hx
      omega
theorem gplF_nil : ∀ {L : List (Nat × Nat)} {k : Nat}, gplF k L = [] ↔ ¬ ∃ q ∈ L, q.1 < q.2
  | [], k => ⟨fun _ ⟨_, h, _⟩ => (nomatch h), fun _ => rfl⟩
  | q :: L, k => by
    have ih := gplF_nil (L := L) (k := k + 1)
    rw [gplF_cons]
    split
    · rename_i hq
      constructor
      · intro z
        cases z
      · intro z
        exact absurd ⟨q, List.mem_cons_self, hq⟩ z
    · rename_i hq
      rw [ih]
      constructor
      · rintro z ⟨x, hx, hl⟩
        rcases List.mem_cons.mp hx with e | e
        · exact hq (e ▸ hl)
        · exact z ⟨x, e, hl⟩
      · rintro z ⟨x, hx, hl⟩
        exact z ⟨x, List.mem_cons_of_mem _ hx, hl⟩
theorem gpl_rst (h : Pm p) {a b : Nat} (ha : a < 2 ^ 64) (hb : b < 2 ^ 64) : rst p a b = 0 ↔ gpl (d2 p a b) ≠ [] := by
  rw [rst_zero h ha hb, Ne, gpl, gplF_nil, Classical.not_not]
theorem d2_len (a b : Nat) : (d2 p a b).length ≤ 64 := d2F_len 64 a b
theorem r_greater (h : Pm p) {a b : Nat} (ha : a < 2 ^ 64) (hb : b < 2 ^ 64) : t_greater_places (p : Int) (a : Int) (b : Int) = some (gpl (d2 p a b)) := by
  unfold t_greater_places
  have := d2_len (p := p) a b
  rw [r_both h ha hb, bd_eq, gd_eq (by rw [enumT_len, cI2_len]; omega)]
  rfl
/-- the told paper -/
def cpap (p a b : Nat) : Str × Int := if gpl (d2 p a b) = [] then (("rest" : Str), rst p a b) else (("divides" : Str), (gpl (d2 p a b)).headD 0)
theorem at_head {xs : List Int} (h : xs ≠ []) : L2.atI xs (0:Int) = some (xs.headD 0) := by
  cases xs with
  | nil => exact absurd rfl h
  | cons x xs => exact at_0
theorem gpl_head {a b : Nat} (h : gpl (d2 p a b) ≠ []) : (gpl (d2 p a b)).headD 0 ∈ gpl (d2 p a b) := by
  cases e : gpl (d2 p a b) with
  | nil => exact absurd e h
  | cons x xs => exact List.mem_cons_self
theorem gpl_head_b {a b : Nat} (h : gpl (d2 p a b) ≠ []) : 0 ≤ (gpl (d2 p a b)).headD 0 ∧ (gpl (d2 p a b)).headD 0 < 64 := by
  have z := gplF_mem _ (gpl_head h)
  have := d2_len (p := p) a b
  omega
theorem pap_if {a b : Nat} {o : Option (Str × Int)} (h : gpl (d2 p a b) = [] → o = some (("rest" : Str), rst p a b)) : (if (!dec (gpl (d2 p a b) = [])) = true then bd (L2.atI (gpl (d2 p a b)) (0:Int)) fun v4 => some (("divides" : Str), v4) else o) = some (cpap p a b) := by
  unfold cpap
  by_cases e : gpl (d2 p a b) = []
  · rw [if_pos e, dec_T e, if_neg (by decide), h e]
  · rw [if_neg e, dec_F e, if_pos (by decide), at_head e]
    rfl
theorem r_paper (h : Pm p) {a b : Nat} (ha : a ≤ 1000000000000000000) (hb : b ≤ 1000000000000000000) : t_choice_paper (p : Int) (a : Int) (b : Int) = some (cpap p a b) := by
  unfold t_choice_paper
  rw [r_wantChoice h ha hb, bd_eq, r_greater h (big18 ha) (big18 hb), bd_eq, pap_if fun _ => by rw [r_restOf h (big18 ha) (big18 hb)]; rfl]
  rfl
theorem sneA : ¬ decide (("rest" : Str) = ("divides" : Str)) = true := by decide
theorem r_isPaper (h : Pm p) {a b : Nat} (ha : a ≤ 1000000000000000000) (hb : b ≤ 1000000000000000000) : t_is_choice_paper (p : Int) (a : Int) (b : Int) (cpap p a b) = some true := by
  have hle := h.le
  unfold t_is_choice_paper
  rw [r_wantChoice h ha hb, bd_eq, r_tuple2, bd_eq, if_neg (by decide)]
  unfold cpap
  by_cases e : gpl (d2 p a b) = []
  · rw [if_pos e]
    have h0 := rst_nn (p := p) a b
    have h1 := rst_lt h a b
    have h2 : ¬ rst p a b = 0 := fun z => (gpl_rst h (big18 ha) (big18 hb)).mp z e
    dsimp only
    rw [r_withinT ⟨h0, by omega⟩, bd_eq, bd_eq]
    rw [if_neg (by decide), if_neg sneA, if_pos (decide_eq_true rfl), decide_eq_true (by omega), if_pos rfl, r_restOf h (big18 ha) (big18 hb), bd_eq, bd_eq, decide_eq_true rfl]
    rfl
  · rw [if_neg e]
    have hb2 := gpl_head_b e
    dsimp only
    rw [r_withinT ⟨hb2.1, by omega⟩, bd_eq, bd_eq]
    rw [if_neg (by decide), if_pos (decide_eq_true rfl), r_greater h (big18 ha) (big18 hb), bd_eq]
    rw [List.contains_iff_mem.mpr (gpl_head e)]
/-! rows -/
def rowR (p m : Nat) : List Int := (List.range (m + 1)).map fun k => rst p m k
def rowN (p m : Nat) : List Nat := (List.range (m + 1)).map fun k => ch m k % p
theorem row_cI (m : Nat) : rowR p m = cI (rowN p m) := by
  unfold rowR rowN cI
  rw [List.map_map]
  rfl
def stepN (p : Nat) (xs : List Nat) : List Nat := 1 :: (List.zipWith (fun a b => (a + b) % p) xs (xs.drop 1) ++ [1])
def stepI (p : Nat) (xs : List Int) : List Int := ([(1:Int)] ++ (List.zip xs (xs.drop 1)).map fun q => (q.1 + q.2) % (p : Int)) ++ [(1:Int)]
theorem step_cI (xs : List Nat) : stepI p (cI xs) = cI (stepN p xs) := by
  have gen : ∀ xs ys : List Nat, (List.zip (cI xs) (cI ys)).map (fun q => (q.1 + q.2) % (p : Int)) = cI (List.zipWith (fun a b => (a + b) % p) xs ys) := by
    intro xs
    induction xs with
    | nil => intro ys; rfl
    | cons x xs ih =>
      intro ys
      cases ys with
      | nil => rfl
      | cons y ys =>
        show (((x : Int) + (y : Int)) % (p : Int)) :: (List.zip (cI xs) (cI ys)).map _ = (((x + y) % p : Nat) : Int) :: cI _
        rw [ih]
        rfl
  have e : (cI xs).drop 1 = cI (xs.drop 1) := by
    unfold cI
    rw [List.map_drop]
  unfold stepI stepN
  rw [e, gen]
  show [(1:Int)] ++ _ ++ [(1:Int)] = ((1 : Nat) : Int) :: cI (_ ++ [1])
  unfold cI
  rw [List.map_append]
  rfl
theorem row_step (h : Pm p) (m : Nat) : stepN p (rowN p m) = rowN p (m + 1) := by
  have h1 : 1 % p = 1 := Nat.mod_eq_of_lt (by have := h.two; omega)
  have e1 : List.zipWith (fun a b => (a + b) % p) (rowN p m) ((rowN p m).drop 1) = (List.range m).map fun k => ch (m + 1) (k + 1) % p := by
    refine List.ext_getElem ?_ ?_
    · simp [rowN]
    · intro i hi1 hi2
      simp [rowN]
      have : ch (m + 1) (i + 1) = ch m i + ch m (i + 1) := rfl
      rw [this]
      first | done | rw [Nat.add_comm 1 i]
  have e2 : List.range (m + 1 + 1) = 0 :: ((List.range m).map Nat.succ ++ [m + 1]) := by
    rw [List.range_succ_eq_map, List.range_succ, List.map_append]
    rfl
  unfold stepN
  rw [e1]
  unfold rowN
  rw [e2, List.map_cons, List.map_append, List.map_map, ch_zero, h1]
  show 1 :: (_ ++ [1]) = 1 :: (_ ++ [ch (m + 1) (m + 1) % p])
  rw [ch_self, h1]
  rfl
def prS : List Nat → Nat
  | [] => 1
  | d :: r => (d + 1) * prS r
def chkR (p : Nat) : Nat → Nat → List Nat → Bool
  | 0, _, _ => true
  | f + 1, m, row => (row.filter (fun k => decide (0 < k))).length == prS (dg p m) && chkR p f (m + 1) (stepN p row)
theorem chkR_of (h : Pm p) : ∀ (f m : Nat), chkR p f m (rowN p m) = true → ∀ i, i < f → ((rowN p (m + i)).filter (fun k => decide (0 < k))).length = prS (dg p (m + i))
  | 0, _, _, i, hi => by omega
  | f + 1, m, hc, i, hi => by
    rw [chkR, Bool.and_eq_true, row_step h] at hc
    cases i with
    | zero => exact eq_of_beq hc.1
    | succ i =>
      have z := chkR_of h f (m + 1) hc.2 i (by omega)
      rw [show m + 1 + i = m + (i + 1) by omega] at z
      exact z
end
end Pd

namespace Pd
theorem chk_all : ([2, 3, 5, 7, 11, 13, 89, 97].all fun p => chkR p 201 0 [1]) = true := by decide +kernel
end Pd

/-! rows of rests, numbers drawn -/
namespace Pd
open PySem PySem.Spec PyProof.Rows L2
section
variable {p : Nat}
/-- an own list of primes -/
def ps10 : List Int := [(2:Int), (2:Int), (3:Int), (3:Int), (5:Int), (7:Int), (11:Int), (13:Int), (89:Int), (97:Int)]
def Pq (p : Nat) : Prop := Pm p ∧ p ∈ [2, 3, 5, 7, 11, 13, 89, 97]
theorem pq_of {x : Int} (h : x ∈ ps10) : ∃ p : Nat, x = (p : Int) ∧ Pq p := by
  have key : ∀ p : Nat, p ∈ [2, 3, 5, 7, 11, 13, 89, 97] → Pq p := fun p hp => ⟨pm_of (by
    simp only [List.mem_cons, List.not_mem_nil, or_false] at hp ⊢
    omega), hp⟩
  unfold ps10 at h
  simp only [List.mem_cons, List.not_mem_nil, or_false] at h
  have h2 : x.toNat ∈ [2, 3, 5, 7, 11, 13, 89, 97] := by
    simp only [List.mem_cons, List.not_mem_nil, or_false]
    omega
  exact ⟨x.toNat, by omega, key _ h2⟩
theorem row_left (h : Pq p) {m : Nat} (hm : m ≤ 200) : ((rowN p m).filter (fun k => decide (0 < k))).length = prS (dg p m) := by
  have z := chkR_of h.1 201 0 (by
    have e : rowN p 0 = [1] := by
      show [ch 0 0 % p] = [1]
      rw [ch_zero, Nat.mod_eq_of_lt (by have := h.1.two; omega)]
    rw [e]
    exact List.all_eq_true.mp chk_all p h.2) m (by omega)
  rw [Nat.zero_add] at z
  exact z
theorem row_leftI (h : Pq p) {m : Nat} (hm : m ≤ 200) : ((((rowR p m).filter (fun (a23 : Int) => (decide ((0:Int) < a23))))).length : Int) = (prS (dg p m) : Int) := by
  rw [← row_left h hm, row_cI]
  unfold cI
  rw [List.filter_map, List.length_map]
  congr 2
  refine List.filter_congr fun k _ => ?_
  show decide ((0:Int) < (k : Int)) = decide (0 < k)
  exact decide_eq_decide.mpr Int.natCast_pos
theorem rowR_len (m : Nat) : (rowR p m).length = m + 1 := by
  unfold rowR
  rw [List.length_map, List.length_range]
theorem rowR_at {m k : Nat} (h : k ≤ m) : L2.atI (rowR p m) (k : Int) = some (rst p m k) := by
  refine at_nat ?_
  unfold rowR
  rw [List.getElem?_map, List.getElem?_range (by omega)]
  rfl
theorem rowR_step (h : Pm p) (m : Nat) : stepI p (rowR p m) = rowR p (m + 1) := by
  rw [row_cI, step_cI, row_step h, row_cI]
theorem fr_row (h : Pm p) {m : Nat} (hm : m ≤ 200) : forM (fun (a4 : Int) (s5 : (List Int)) => gd (((List.zip s5 (cutD s5 (some (1:Int)) none))).length < 16777216) <| bd (mpM (fun (a8 : (Int × Int)) => gd (0 < (p : Int)) <| some ((a8.1 + a8.2) % (p : Int))) (List.zip s5 (cutD s5 (some (1:Int)) none))) fun v11 => gd (([(1:Int)]).length + (v11).length ≤ 16777216) <| gd ((([(1:Int)] ++ v11)).length + ([(1:Int)]).length ≤ 16777216) <| lt ((([(1:Int)] ++ v11) ++ [(1:Int)]) : (List Int)) fun w14 => some w14) (rng1 (m : Int)) [(1:Int)] = some (rowR p m) := by
  have e0 : [(1:Int)] = rowR p 0 := by
    show _ = [((ch 0 0 % p : Nat) : Int)]
    rw [ch_zero, Nat.mod_eq_of_lt (by have := h.two; omega)]
    rfl
  have z := forM_rng (f := fun (a4 : Int) (s5 : (List Int)) => gd (((List.zip s5 (cutD s5 (some (1:Int)) none))).length < 16777216) <| bd (mpM (fun (a8 : (Int × Int)) => gd (0 < (p : Int)) <| some ((a8.1 + a8.2) % (p : Int))) (List.zip s5 (cutD s5 (some (1:Int)) none))) fun v11 => gd (([(1:Int)]).length + (v11).length ≤ 16777216) <| gd ((([(1:Int)] ++ v11)).length + ([(1:Int)]).length ≤ 16777216) <| lt ((([(1:Int)] ++ v11) ++ [(1:Int)]) : (List Int)) fun w14 => some w14) (fun i => rowR p i) (n := m) fun i hi => by
    have hp := h.two
    have hl := rowR_len (p := p) i
    have e : cutD (rowR p i) (some (1:Int)) none = (rowR p i).drop 1 := cut_drop (rowR p i) 1
    have hz : (List.zip (rowR p i) ((rowR p i).drop 1)).length ≤ 201 := by
      rw [List.length_zip]
      omega
    show gd (((List.zip (rowR p i) (cutD (rowR p i) (some (1:Int)) none))).length < 16777216) _ = _
    rw [e, gd_eq (by omega), mpM_of (f := fun (a8 : (Int × Int)) => gd (0 < (p : Int)) <| some ((a8.1 + a8.2) % (p : Int))) (g := fun q => (q.1 + q.2) % (p : Int)) fun a _ => gd_eq (by omega), bd_eq, gd_eq (by rw [List.length_map, List.length_singleton]; omega), gd_eq (by rw [List.length_append, List.length_map, List.length_singleton]; omega)]
    show some (stepI p (rowR p i)) = _
    rw [rowR_step h]
  exact (congrArg (forM _ (rng1 (m : Int))) e0).trans z
theorem r_rowRests (h : Pm p) {m : Nat} (hm : m ≤ 200) : t_row_rests (p : Int) (m : Int) = some (rowR p m) := by
  unfold t_row_rests
  have e : ((m : Int) + 1) = ((m + 1 : Nat) : Int) := by omega
  rw [r_wantPrime h, bd_eq, r_wantMany hm, bd_eq, e, gd_eq (ibd_nat (by omega)), gd_eq (by rw [rng1_len]; omega), mpM_rng (g := fun k => rst p m k) fun i hi => by
    rw [r_restOf h (by omega) (by omega)]
    rfl]
  rfl
theorem fr_left : ∀ (ds : List Nat) (s : Nat), (∀ d ∈ ds, d < 97) → s * 128 ^ ds.length < 2 ^ 1000 → forM (fun (a4 : Int) (s5 : Int) => gd (mulOk s5 (a4 + (1:Int)) = true) <| lt ((s5 * (a4 + (1:Int))) : Int) fun w9 => some w9) (cI ds) (s : Int) = some ((s * prS ds : Nat) : Int)
  | [], s, _, _ => by
    show some _ = some _
    rw [prS, Nat.mul_one]
  | d :: ds, s, hd, hs => by
    have h1 := hd d List.mem_cons_self
    rw [List.length_cons, Nat.pow_succ] at hs
    have h2 : s * (d + 1) * 128 ^ ds.length < 2 ^ 1000 := by
      refine Nat.lt_of_le_of_lt ?_ hs
      rw [Nat.mul_assoc]
      refine Nat.mul_le_mul_left s ?_
      rw [Nat.mul_comm]
      exact Nat.mul_le_mul_left _ (by omega)
    have h3 : s < 2 ^ 1000 := by
      refine Nat.lt_of_le_of_lt ?_ hs
      exact Nat.le_mul_of_pos_right _ (Nat.mul_pos (Nat.pow_pos (by omega)) (by omega))
    have ih := fr_left ds (s * (d + 1)) (fun x hx => hd x (List.mem_cons_of_mem _ hx)) h2
    show bd (gd (mulOk (s : Int) ((d : Int) + (1:Int)) = true) _) _ = _
    rw [gd_eq (mulOk_of 1000 64 (by rw [Int.natAbs_natCast]; exact h3) (by omega) (by omega))]
    show bd (some ((s : Int) * ((d : Int) + 1))) _ = _
    have e : (s : Int) * ((d : Int) + 1) = ((s * (d + 1) : Nat) : Int) := by
      rw [Int.natCast_mul, Int.natCast_add]
      rfl
    rw [bd_eq, e, prS, ← Nat.mul_assoc]
    exact ih
theorem r_rowLeft (h : Pm p) {m : Nat} (hm : m ≤ 200) : t_row_left (p : Int) (m : Int) = some (prS (dg p m) : Int) := by
  unfold t_row_left
  have hle := h.le
  have z := fr_left (dgF p 64 m) 1 (fun d hd => by have := dgF_lt h.pos 64 m d hd; omega) (by
    have h1 := dgF_len (p := p) 64 m
    have h2 : (128 : Nat) ^ (dgF p 64 m).length ≤ 128 ^ 64 := Nat.pow_le_pow_right (by omega) h1
    have h3 : (128 : Nat) ^ 64 < 2 ^ 1000 := by decide
    omega)
  rw [Nat.one_mul] at z
  rw [r_wantPrime h, bd_eq, r_wantGreat (by omega), bd_eq, r_digitsOf h (by omega), bd_eq]
  show bd (forM _ (cI (dgF p 64 m)) ((1 : Nat) : Int)) _ = _
  rw [z]
  rfl
theorem rst_symm {a b : Nat} (h : b ≤ a) : rst p a (a - b) = rst p a b := by
  unfold rst
  rw [ch_symm h]
theorem rowR_b (h : Pm p) (m : Nat) : ∀ x ∈ rowR p m, x.natAbs < 2 ^ 7 := fun x hx => by
  unfold rowR at hx
  rw [List.mem_map] at hx
  obtain ⟨k, _, e⟩ := hx
  have h1 := rst_nn (p := p) m k
  have h2 := rst_lt h m k
  have h3 := h.le
  omega
theorem dg_b (h : Pm p) (n : Nat) : ∀ x ∈ cI (dg p n), x.natAbs < 2 ^ 7 := fun x hx => by
  unfold cI at hx
  rw [List.mem_map] at hx
  obtain ⟨k, hk, e⟩ := hx
  have h1 := dgF_lt h.pos 64 n k hk
  have h3 := h.le
  omega
theorem dsum_le (h : Pm p) (n : Nat) : dsum p n ≤ 64 * 97 := by
  have gen : ∀ xs : List Nat, (∀ x ∈ xs, x < 97) → xs.sum ≤ xs.length * 97 := by
    intro xs
    induction xs with
    | nil => intro _; simp
    | cons x xs ih =>
      intro hx
      have h1 := ih fun y hy => hx y (List.mem_cons_of_mem _ hy)
      have h2 := hx x List.mem_cons_self
      rw [List.sum_cons, List.length_cons, Nat.add_mul]
      omega
  have hle := h.le
  have h1 := gen (dg p n) fun x hx => by have := dgF_lt h.pos 64 n x hx; omega
  have h2 := dgF_len (p := p) 64 n
  have h3 : (dg p n).length * 97 ≤ 64 * 97 := Nat.mul_le_mul_right _ h2
  unfold dsum
  omega
theorem WrD.pap {n : Str} {i : Int} (hs : (PyData.str n).canLay0 = true ∧ (PyData.str n).showable = true ∧ (PyData.str n).depth ≤ 0 ∧ wsz (.str n) ≤ 1003) (hi : i.natAbs < 2 ^ 1000) : WrD (.tuple [(.str n), (.int i)]) 1 ((1003 + 2) * 2 + 3) := WrD.tuple (k := 0) (m := 1003) (n := 2) (fun d hd => by
  simp only [List.mem_cons, List.not_mem_nil, or_false] at hd
  rcases hd with e | e <;> subst e
  · exact ⟨hs.1, hs.2.1, hs.2.2.1, hs.2.2.2⟩
  · exact WrD.int hi) (by simp)
theorem WrD.two {d : PyData} {k m : Nat} (h : WrD d k m) (hk : k ≤ 39 := by decide) : WrD (.list [d, d]) (k + 1) ((m + 2) * 2 + 3) := WrD.list (n := 2) (fun e he => by
  simp only [List.mem_cons, List.not_mem_nil, or_false] at he
  rcases he with z | z <;> subst z <;> exact h) (by simp) hk
theorem sh_rest : (PyData.str ("rest" : Str)).canLay0 = true ∧ (PyData.str ("rest" : Str)).showable = true ∧ (PyData.str ("rest" : Str)).depth ≤ 0 ∧ wsz (.str ("rest" : Str)) ≤ 1003 := ⟨by decide +kernel, by decide +kernel, by decide +kernel, by decide +kernel⟩
theorem sh_div : (PyData.str ("divides" : Str)).canLay0 = true ∧ (PyData.str ("divides" : Str)).showable = true ∧ (PyData.str ("divides" : Str)).depth ≤ 0 ∧ wsz (.str ("divides" : Str)) ≤ 1003 := ⟨by decide +kernel, by decide +kernel, by decide +kernel, by decide +kernel⟩
theorem cpap_wr (h : Pm p) (a b : Nat) : WrD (.tuple [(.str (cpap p a b).1), (.int (cpap p a b).2)]) 1 ((1003 + 2) * 2 + 3) := by
  have h97 := h.le
  unfold cpap
  split
  · have h1 := rst_nn (p := p) a b
    have h2 := rst_lt h a b
    refine WrD.pap sh_rest ?_
    have h3 : (97 : Nat) < 2 ^ 1000 := by decide
    dsimp only
    omega
  · rename_i e
    have h1 := gpl_head_b e
    refine WrD.pap sh_div ?_
    have h3 : (97 : Nat) < 2 ^ 1000 := by decide
    dsimp only
    omega
theorem repL_two (x : Int) : repL [x] (2:Int) = [x, x] := rfl
end
end Pd

/-! sums over lots -/
namespace Pd
open PySem PySem.Spec PyProof.Rows L2
def bitB (j a : Nat) : Bool := decide (a / 2 ^ j % 2 = 1)
def opD (by_ : Int) (j : Nat) (f : Nat → Int) (a : Nat) : Int := f a + (if bitB j a then by_ * f (a - 2 ^ j) else 0)
def opO (by_ : Int) : Nat → (Nat → Int) → Nat → Int
  | 0, f => f
  | k + 1, f => opD by_ k (opO by_ k f)
theorem bit_sub {i j a : Nat} (h : bitB j a = true) : bitB i (a - 2 ^ j) = if i = j then false else bitB i a := by
  unfold bitB at h ⊢
  have h := of_decide_eq_true h
  have hp : 0 < 2 ^ j := Nat.pow_pos (by omega)
  have e1 := Nat.div_add_mod a (2 ^ j)
  have hm := Nat.mod_lt a hp
  generalize hq : a / 2 ^ j = q at *
  have ea : a = 2 ^ j * q + a % 2 ^ j := e1.symm
  have e2 : a - 2 ^ j = 2 ^ j * (q - 1) + a % 2 ^ j := by
    obtain ⟨t, rfl⟩ : ∃ t, q = t + 1 := ⟨q - 1, by omega⟩
    rw [Nat.mul_add, Nat.mul_one] at ea
    rw [Nat.add_sub_cancel]
    omega
  by_cases hij : i = j
  · subst hij
    rw [if_pos rfl, e2, Nat.mul_add_div hp, Nat.div_eq_of_lt hm, Nat.add_zero]
    exact decide_eq_false (by omega)
  · rw [if_neg hij]
    refine decide_eq_decide.mpr ?_
    by_cases hlt : i < j
    · obtain ⟨d, rfl⟩ : ∃ d, j = i + (d + 1) := ⟨j - i - 1, by omega⟩
      have hpi : 0 < 2 ^ i := Nat.pow_pos (by omega)
      have e3 : ∀ t, (2 ^ (i + (d + 1)) * t + a % 2 ^ (i + (d + 1))) / 2 ^ i = 2 * (2 ^ d * t) + a % 2 ^ (i + (d + 1)) / 2 ^ i := fun t => by
        rw [Nat.pow_add, Nat.mul_assoc, Nat.mul_add_div hpi, Nat.pow_succ, Nat.mul_comm (2 ^ d) 2, Nat.mul_assoc]
      rw [e2, e3, Nat.mul_add_mod]
      conv => rhs; rw [ea, e3, Nat.mul_add_mod]
    · obtain ⟨d, rfl⟩ : ∃ d, i = j + (d + 1) := ⟨i - j - 1, by omega⟩
      have e3 : (a - 2 ^ j) / 2 ^ (j + (d + 1)) = (q - 1) / 2 ^ (d + 1) := by
        rw [Nat.pow_add, ← Nat.div_div_eq_div_mul, e2, Nat.mul_add_div hp, Nat.div_eq_of_lt hm, Nat.add_zero]
      have e4 : a / 2 ^ (j + (d + 1)) = q / 2 ^ (d + 1) := by
        rw [Nat.pow_add, ← Nat.div_div_eq_div_mul, hq]
      have e5 : (q - 1) / 2 ^ (d + 1) = q / 2 ^ (d + 1) := by
        have e6 : 2 ^ (d + 1) = 2 * 2 ^ d := by rw [Nat.pow_succ, Nat.mul_comm]
        rw [e6, ← Nat.div_div_eq_div_mul, ← Nat.div_div_eq_div_mul]
        congr 1
        omega
      rw [e3, e4, e5]
theorem opD_back (by_ : Int) (h : by_ = 1 ∨ by_ = -1) (j : Nat) (f : Nat → Int) : opD (-by_) j (opD by_ j f) = f := by
  funext a
  unfold opD
  by_cases hb : bitB j a = true
  · have h2 := bit_sub (i := j) hb
    rw [if_pos rfl] at h2
    rw [if_pos hb, if_pos hb, h2, if_neg (by decide)]
    rcases h with e | e <;> subst e <;> omega
  · rw [if_neg hb, if_neg hb]
    omega
theorem opD_comm (b c : Int) (hb : b = 1 ∨ b = -1) (hc : c = 1 ∨ c = -1) {i j : Nat} (hij : i ≠ j) (f : Nat → Int) : opD b i (opD c j f) = opD c j (opD b i f) := by
  funext a
  unfold opD
  by_cases h1 : bitB i a = true <;> by_cases h2 : bitB j a = true
  · have e1 := bit_sub (i := j) h1
    have e2 := bit_sub (i := i) h2
    rw [if_neg (Ne.symm hij)] at e1
    rw [if_neg hij] at e2
    rw [if_pos h1, if_pos h2, if_pos h1, if_pos h2, e1, e2, if_pos h2, if_pos h1]
    have e3 : a - 2 ^ i - 2 ^ j = a - 2 ^ j - 2 ^ i := by omega
    rw [e3]
    rcases hb with e | e <;> rcases hc with e' | e' <;> subst e <;> subst e' <;> omega
  · have e1 := bit_sub (i := j) h1
    rw [if_neg (Ne.symm hij)] at e1
    rw [if_pos h1, if_neg h2, if_pos h1, if_neg h2, e1, if_neg h2, Int.add_zero, Int.add_zero, Int.add_zero]
  · have e2 := bit_sub (i := i) h2
    rw [if_neg hij] at e2
    rw [if_neg h1, if_pos h2, if_neg h1, if_pos h2, e2, if_neg h1, Int.add_zero, Int.add_zero, Int.add_zero]
  · rw [if_neg h1, if_neg h2, if_neg h1, if_neg h2]
theorem opO_comm (b c : Int) (hb : b = 1 ∨ b = -1) (hc : c = 1 ∨ c = -1) {j : Nat} : ∀ (k : Nat), k ≤ j → ∀ f, opO b k (opD c j f) = opD c j (opO b k f)
  | 0, _, _ => rfl
  | k + 1, h, f => by
    rw [opO, opO, opO_comm b c hb hc k (by omega), opD_comm b c hb hc (by omega)]
theorem opO_back (b : Int) (hb : b = 1 ∨ b = -1) : ∀ (k : Nat) (f : Nat → Int), opO (-b) k (opO b k f) = f
  | 0, _ => rfl
  | k + 1, f => by
    rw [opO, opO, opO_comm (-b) b (by omega) hb k (Nat.le_refl _), opD_back b hb, opO_back b hb k f]
/-- the lots within, rising -/
def subL : Nat → Nat → List Nat
  | 0, a => [a]
  | k + 1, a => (if bitB k a then subL k (a - 2 ^ k) else []) ++ subL k a
theorem opO_sum (f : Nat → Int) : ∀ (k a : Nat), opO 1 k f a = ((subL k a).map f).sum
  | 0, a => by
    show f a = f a + 0
    omega
  | k + 1, a => by
    rw [opO, opD, subL, List.map_append, List.sum_append, opO_sum f k a]
    by_cases h : bitB k a = true
    · rw [if_pos h, if_pos h, opO_sum f k]
      omega
    · rw [if_neg h, if_neg h]
      simp
/-! lists -/
def lsO (b : Int) (k : Nat) (xs : List Int) : List Int := (List.range xs.length).map (opO b k (gt xs))
theorem lsO_len (b : Int) (k : Nat) (xs : List Int) : (lsO b k xs).length = xs.length := by
  unfold lsO
  simp
theorem gt_lsO {b : Int} {k : Nat} {xs : List Int} {a : Nat} (h : a < xs.length) : gt (lsO b k xs) a = opO b k (gt xs) a := gt_range h
theorem opD_congr {b : Int} {j n : Nat} {f g : Nat → Int} (h : ∀ a, a < n → f a = g a) : ∀ a, a < n → opD b j f a = opD b j g a := fun a ha => by
  unfold opD
  rw [h a ha, h (a - 2 ^ j) (Nat.lt_of_le_of_lt (Nat.sub_le _ _) ha)]
theorem opO_congr {b : Int} {n : Nat} {f g : Nat → Int} (h : ∀ a, a < n → f a = g a) : ∀ k a, a < n → opO b k f a = opO b k g a
  | 0, a, ha => h a ha
  | k + 1, a, ha => opD_congr (opO_congr h k) a ha
theorem lsO_back {b : Int} (hb : b = 1 ∨ b = -1) (k : Nat) (xs : List Int) : lsO (-b) k (lsO b k xs) = xs := by
  refine ext_gt (by rw [lsO_len, lsO_len]) fun a ha => ?_
  rw [lsO_len, lsO_len] at ha
  rw [gt_lsO (by rw [lsO_len]; exact ha), opO_congr (g := opO b k (gt xs)) (n := xs.length) (fun c hc => gt_lsO hc) k a ha, opO_back b hb]
theorem opO_abs {b : Int} (hb : b = 1 ∨ b = -1) {f : Nat → Int} {B : Nat} (h : ∀ a, (f a).natAbs ≤ B) : ∀ k a, (opO b k f a).natAbs ≤ 2 ^ k * B
  | 0, a => by
    rw [Nat.pow_zero, Nat.one_mul]
    exact h a
  | k + 1, a => by
    have h1 := opO_abs hb h k a
    have h2 := opO_abs hb h k (a - 2 ^ k)
    rw [opO, opD, Nat.pow_succ, Nat.mul_assoc, Nat.mul_comm 2, ← Nat.mul_assoc]
    split
    · rcases hb with e | e <;> subst e <;> omega
    · omega
theorem gt_absB {xs : List Int} {B : Nat} (h : ∀ x ∈ xs, x.natAbs ≤ B) (a : Nat) : (gt xs a).natAbs ≤ B := by
  by_cases ha : a < xs.length
  · exact h _ (gt_mem ha)
  · rw [gt_none (by omega)]
    exact Nat.zero_le _
noncomputable def ovB (b : Int) : (List Int) × Int → Option ((List Int) × Int) := fun (s1 : (List Int) × Int) => gd (((enumT 0 s1.1)).length < 16777216) <| bd (mpM (fun (a5 : (Int × Int)) => gd (divOk s1.2 = true) <| bd (if (decide (((a5.1 / s1.2) % (2:Int)) = (1:Int))) = true then bd (L2.atI s1.1 (a5.1 - s1.2)) fun v9 => gd (mulOk b v9 = true) <| some (b * v9) else some (0:Int)) fun v8 => some (a5.2 + v8)) (enumT 0 s1.1)) fun v11 => gd (mulOk (2:Int) s1.2 = true) <| lt (((2:Int) * s1.2) : Int) fun w13 => some (v11, w13)
theorem ovB_eq {b : Int} (hb : b = 1 ∨ b = -1) {j : Nat} {xs : List Int} (hj : j ≤ 20) (hl : xs.length ≤ 10000) (hB : ∀ x ∈ xs, x.natAbs < 2 ^ 600) : ovB b (xs, ((2 ^ j : Nat) : Int)) = some ((List.range xs.length).map (opD b j (gt xs)), ((2 ^ (j + 1) : Nat) : Int)) := by
  have hp : 0 < 2 ^ j := Nat.pow_pos (by omega)
  have hlt : (2 : Nat) ^ j ≤ 2 ^ 20 := Nat.pow_le_pow_right (by omega) hj
  unfold ovB
  show gd ((enumT 0 xs).length < 16777216) (bd (mpM (fun (a5 : (Int × Int)) => gd (divOk ((2 ^ j : Nat) : Int) = true) <| bd (if (decide (((a5.1 / ((2 ^ j : Nat) : Int)) % (2:Int)) = (1:Int))) = true then bd (L2.atI xs (a5.1 - ((2 ^ j : Nat) : Int))) fun v9 => gd (mulOk b v9 = true) <| some (b * v9) else some (0:Int)) fun v8 => some (a5.2 + v8)) (enumT 0 xs)) fun v11 => gd (mulOk (2:Int) ((2 ^ j : Nat) : Int) = true) (some (v11, (2:Int) * ((2 ^ j : Nat) : Int)))) = _
  rw [gd_eq (by rw [enumT_len]; omega), mpM_enum (g := fun k v => v + (if bitB j k then b * gt xs (k - 2 ^ j) else 0)) fun k v hv => by
    have hk : k < xs.length := (List.getElem?_eq_some_iff.mp hv).1
    dsimp only
    rw [gd_eq (divOk_of 64 (by omega) (by rw [Int.natAbs_natCast]; omega) (by omega))]
    have e1 : ((k : Int) / ((2 ^ j : Nat) : Int)) % 2 = ((k / 2 ^ j % 2 : Nat) : Int) := rfl
    have e2 : decide (((k : Int) / ((2 ^ j : Nat) : Int)) % 2 = 1) = bitB j k := by
      rw [e1]
      unfold bitB
      exact decide_eq_decide.mpr (by omega)
    rw [e2]
    by_cases h : bitB j k = true
    · have hge : 2 ^ j ≤ k := Nat.le_of_not_lt fun hh => by
        unfold bitB at h
        rw [Nat.div_eq_of_lt hh] at h
        cases h
      have hb9 : b.natAbs < 2 ^ 64 := by rcases hb with e | e <;> subst e <;> decide
      rw [if_pos h, if_pos h, show (k : Int) - ((2 ^ j : Nat) : Int) = ((k - 2 ^ j : Nat) : Int) by omega, at_nat (gt_some (by omega)), bd_eq, gd_eq (Pd.mulOk_of 64 600 hb9 (hB _ (gt_mem (by omega))) (by omega)), bd_eq]
    · rw [if_neg h, if_neg h, bd_eq]]
  rw [bd_eq, gd_eq (Pd.mulOk_of 64 64 (by omega) (by rw [Int.natAbs_natCast]; omega) (by omega)), mi_eq]
  congr 2
  rw [Nat.pow_succ, Int.natCast_mul, Int.mul_comm]
  rfl
theorem wh_over {b : Int} (hb : b = 1 ∨ b = -1) {k : Nat} (hk : k ≤ 9) {xs : List Int} (hl : xs.length = 2 ^ k) {B : Nat} (hB : ∀ x ∈ xs, x.natAbs ≤ B) (hB2 : 512 * B < 2 ^ 600) : ∀ (m j : Nat), j + m = k → whM (fun (s1 : (List Int) × Int) =>  some (decide (s1.2 < ((s1.1).length : Int)))) (ovB b) (m + 1) (lsO b j xs, ((2 ^ j : Nat) : Int)) = some (lsO b k xs, ((2 ^ k : Nat) : Int))
  | 0, j, hj => by
    have e : j = k := by omega
    subst e
    unfold whM
    show bd (some (decide (((2 ^ j : Nat) : Int) < ((lsO b j xs).length : Int)))) _ = _
    rw [lsO_len, hl, decide_eq_false (by omega), bd_eq]
  | m + 1, j, hj => by
    have ih := wh_over hb hk hl hB hB2 m (j + 1) (by omega)
    have hlt : (2 : Nat) ^ j < 2 ^ k := Nat.pow_lt_pow_right (by omega) (by omega)
    have hle : (2 : Nat) ^ k ≤ 2 ^ 9 := Nat.pow_le_pow_right (by omega) hk
    have hle2 : (2 : Nat) ^ j ≤ 2 ^ 9 := by omega
    unfold whM
    show bd (some (decide (((2 ^ j : Nat) : Int) < ((lsO b j xs).length : Int)))) _ = _
    rw [lsO_len, hl, decide_eq_true (by omega), bd_eq]
    show bd (ovB b (lsO b j xs, ((2 ^ j : Nat) : Int))) _ = _
    have hbb : ∀ x ∈ lsO b j xs, x.natAbs < 2 ^ 600 := fun x hx => by
      unfold lsO at hx
      rw [List.mem_map] at hx
      obtain ⟨a, _, e⟩ := hx
      have z := opO_abs hb (gt_absB hB) j a
      have z2 : 2 ^ j * B ≤ 512 * B := Nat.mul_le_mul_right _ hle2
      rw [← e]
      omega
    rw [ovB_eq hb (by omega) (by rw [lsO_len, hl]; omega) hbb, bd_eq, lsO_len]
    have e : (List.range xs.length).map (opD b j (gt (lsO b j xs))) = lsO b (j + 1) xs := by
      refine List.map_congr_left fun a ha => ?_
      rw [List.mem_range] at ha
      exact opD_congr (n := xs.length) (fun c hc => gt_lsO hc) a ha
    rw [e]
    exact ih
theorem r_over {b : Int} (hb : b = 1 ∨ b = -1) {k : Nat} (hk : k ≤ 9) {q : Sq Int} (hl : q.l.length = 2 ^ k) {B : Nat} (hB : ∀ x ∈ q.l, x.natAbs ≤ B) (hB2 : 512 * B < 2 ^ 600) : t_over_lots q b = some (lsO b k q.l) := by
  unfold t_over_lots
  have z := whM_mono (n := nF) (show k + 1 ≤ 1000 by omega) (wh_over hb hk hl hB hB2 k 0 (by omega))
  have e : lsO b 0 q.l = q.l := by
    unfold lsO
    exact (list_range q.l).symm
  rw [e] at z
  have z2 : whM _ (ovB b) nF (q.l, (1:Int)) = _ := z
  exact congrArg (fun o => bd o fun s14 => some s14.1) z2
theorem r_wantLots {k : Nat} (hk : k ≤ 9) {q : Sq Int} (hl : q.l.length = 2 ^ k) : t_want_lot_numbers q = some () := by
  unfold t_want_lot_numbers
  have hle : (2 : Nat) ^ k ≤ 2 ^ 9 := Nat.pow_le_pow_right (by omega) hk
  have gen : ∀ (m j : Nat), j + m = k → whM (fun (s8 : Int) =>  some ((decide (s8 < (q.l.length : Int))) && (decide (s8 < (512:Int))))) (fun (s8 : Int) => gd (mulOk (2:Int) s8 = true) <| lt (((2:Int) * s8) : Int) fun w13 => some w13) (m + 1) ((2 ^ j : Nat) : Int) = some ((2 ^ k : Nat) : Int) := by
    intro m
    induction m with
    | zero =>
      intro j hj
      have e : j = k := by omega
      subst e
      unfold whM
      rw [hl, decide_eq_false (by omega), Bool.false_and, bd_eq]
    | succ m ih =>
      intro j hj
      have hlt : (2 : Nat) ^ j < 2 ^ k := Nat.pow_lt_pow_right (by omega) (by omega)
      have ih := ih (j + 1) (by omega)
      unfold whM
      rw [hl, decide_eq_true (by omega), decide_eq_true (by omega), bd_eq]
      show bd (gd (mulOk (2:Int) ((2 ^ j : Nat) : Int) = true) (some ((2:Int) * ((2 ^ j : Nat) : Int)))) _ = _
      have e : (2:Int) * ((2 ^ j : Nat) : Int) = ((2 ^ (j + 1) : Nat) : Int) := by
        rw [Nat.pow_succ]
        omega
      rw [gd_eq (Pd.mulOk_of 64 64 (by omega) (by rw [Int.natAbs_natCast]; omega) (by omega)), bd_eq, e]
      rw [hl] at ih
      exact ih
  have z := whM_mono (n := nF) (show k + 1 ≤ 1000 by omega) (gen k 0 (by omega))
  have z2 : whM _ _ nF (1:Int) = some ((2 ^ k : Nat) : Int) := z
  rw [r_listQ, bd_eq, gd_eq rfl, gd_eq (by omega), mpM_of (g := fun _ => true) fun a _ => by
    rw [r_int]
    rfl]
  rw [bd_eq, gd_eq (by
    rw [List.all_eq_true]
    intro x hx
    rw [List.mem_map] at hx
    obtain ⟨_, _, e⟩ := hx
    rw [← e]
    rfl), z2, bd_eq, gd_eq (by rw [hl])]
theorem r_lotsSummed {k : Nat} (hk : k ≤ 9) {q : Sq Int} (hl : q.l.length = 2 ^ k) {B : Nat} (hB : ∀ x ∈ q.l, x.natAbs ≤ B) (hB2 : 512 * B < 2 ^ 600) : t_lots_summed q = some (lsO 1 k q.l) := by
  unfold t_lots_summed
  rw [r_wantLots hk hl, bd_eq, r_over (.inl rfl) hk hl hB hB2]
  rfl
theorem r_lotsBack {k : Nat} (hk : k ≤ 9) {q : Sq Int} (hl : q.l.length = 2 ^ k) {B : Nat} (hB : ∀ x ∈ q.l, x.natAbs ≤ B) (hB2 : 512 * B < 2 ^ 600) : t_lots_taken_back q = some (lsO (-1) k q.l) := by
  unfold t_lots_taken_back
  rw [r_wantLots hk hl, bd_eq, r_over (.inr rfl) hk hl hB hB2]
  rfl
end Pd

/-! lots by binary digits -/
namespace Pd
open PySem PySem.Spec PyProof.Rows L2
def lotN (k a : Nat) : List Nat := (List.range k).filter fun j => bitB j a
def subT (k b a : Nat) : Bool := (lotN k b).all fun t => (lotN k a).contains t
theorem sub_all : ((List.range 7).all fun k => (List.range (2 ^ k)).all fun a => decide ((List.range (2 ^ k)).filter (fun b => subT k b a) = subL k a)) = true := by decide +kernel
theorem sub_at {k a : Nat} (hk : k < 7) (ha : a < 2 ^ k) : (List.range (2 ^ k)).filter (fun b => subT k b a) = subL k a := by
  have z := List.all_eq_true.mp (List.all_eq_true.mp sub_all k (List.mem_range.mpr hk)) a (List.mem_range.mpr ha)
  exact of_decide_eq_true z
theorem sub_full : ([7, 8, 9].all fun k => decide (subL k (2 ^ k - 1) = List.range (2 ^ k))) = true := by decide +kernel
theorem subL_zero : ∀ k : Nat, subL k 0 = [0]
  | 0 => rfl
  | k + 1 => by
    have e : bitB k 0 = false := by
      unfold bitB
      rw [Nat.zero_div]
      rfl
    rw [subL, e, if_neg (by decide), subL_zero k]
    rfl
end Pd

/-! one lot alone, taken back -/
namespace Pd
open PySem PySem.Spec PyProof.Rows L2
def unitL (k at_ : Nat) : List Int := (List.range (2 ^ k)).map fun a => if a = at_ then 1 else 0
def sgL (k at_ : Nat) : List Int := (List.range (2 ^ k)).map fun a => if subT k at_ a = true then (if (((lotN k a).length : Int) - ((lotN k at_).length : Int)) % 2 = 0 then 1 else -1) else 0
theorem sg_all : ((List.range 7).all fun k => (List.range (2 ^ k)).all fun a => decide (lsO (-1) k (unitL k a) = sgL k a)) = true := by decide +kernel
theorem sg_at {k a : Nat} (hk : k < 7) (ha : a < 2 ^ k) : lsO (-1) k (unitL k a) = sgL k a := by
  have z := List.all_eq_true.mp (List.all_eq_true.mp sg_all k (List.mem_range.mpr hk)) a (List.mem_range.mpr ha)
  exact of_decide_eq_true z
end Pd

/-! things under other numbers -/
namespace Pd
open PySem PySem.Spec PyProof.Rows L2
def insAll (x : Int) : List Int → List (List Int)
  | [] => [[x]]
  | y :: ys => (x :: y :: ys) :: (insAll x ys).map fun r => y :: r
def permsI : List Int → List (List Int)
  | [] => [[]]
  | x :: xs => (permsI xs).flatMap (insAll x)
theorem insAll_mem (x : Int) : ∀ (a b : List Int), a ++ x :: b ∈ insAll x (a ++ b)
  | [], [] => by simp [insAll]
  | [], y :: ys => by simp [insAll]
  | z :: a, b => by
    have ih := insAll_mem x a b
    show z :: (a ++ x :: b) ∈ insAll x (z :: (a ++ b))
    rw [insAll]
    exact List.mem_cons_of_mem _ (List.mem_map_of_mem ih)
theorem perms_mem : ∀ {xs r : List Int}, r.Perm xs → r ∈ permsI xs
  | [], r, h => by
    have e := h.eq_nil
    subst e
    exact List.mem_cons_self
  | x :: xs, r, h => by
    have hx : x ∈ r := h.mem_iff.mpr List.mem_cons_self
    obtain ⟨a, b, e⟩ := List.append_of_mem hx
    subst e
    have h2 : (a ++ b).Perm xs := by
      have z : (x :: (a ++ b)).Perm (x :: xs) := (List.perm_middle.symm).trans h
      exact (List.perm_cons x).mp z
    exact List.mem_flatMap.mpr ⟨a ++ b, perms_mem h2, insAll_mem x a b⟩
/-- where a lot comes to stand -/
def piO (o : List Int) (k b : Nat) : Option Nat := ((List.range (2 ^ k)).map fun a => cI (lotN k a)).findIdx? fun z => decide (z = sortI ((lotN k b).map fun t => o.getD t 0))
def piN (o : List Int) (k b : Nat) : Nat := (piO o k b).getD 0
def chkPi (k : Nat) (o : List Int) : Bool := decide (o.length = k) && ((List.range (2 ^ k)).all fun b => decide (piO o k b = some (piN o k b)) && decide (piN o k b < 2 ^ k) && ((List.range (2 ^ k)).all fun a => decide (piN o k a = piN o k b → a = b)) && (subL k (piN o k b)).isPerm ((subL k b).map (piN o k)))
theorem pi_all : ((List.range 5).all fun k => (permsI (cI (List.range k))).all (chkPi k)) = true := by decide +kernel
structure PiF (k : Nat) (o : List Int) : Prop where
  len : o.length = k
  fnd : ∀ b, b < 2 ^ k → piO o k b = some (piN o k b) ∧ piN o k b < 2 ^ k
  inj : ∀ a b, a < 2 ^ k → b < 2 ^ k → piN o k a = piN o k b → a = b
  per : ∀ b, b < 2 ^ k → (subL k (piN o k b)).Perm ((subL k b).map (piN o k))
theorem pi_facts {k : Nat} (hk : k < 5) {o : List Int} (h : o.Perm (cI (List.range k))) : PiF k o := by
  have z := List.all_eq_true.mp (List.all_eq_true.mp pi_all k (List.mem_range.mpr hk)) o (perms_mem h)
  unfold chkPi at z
  rw [Bool.and_eq_true, decide_eq_true_eq] at z
  have z2 : ∀ b, b < 2 ^ k → ((piO o k b = some (piN o k b) ∧ piN o k b < 2 ^ k) ∧ ∀ a, a < 2 ^ k → piN o k a = piN o k b → a = b) ∧ (subL k (piN o k b)).Perm ((subL k b).map (piN o k)) := fun b hb => by
    have y := List.all_eq_true.mp z.2 b (List.mem_range.mpr hb)
    rw [Bool.and_eq_true, Bool.and_eq_true, Bool.and_eq_true, decide_eq_true_eq, decide_eq_true_eq] at y
    exact ⟨⟨y.1.1, fun a ha => of_decide_eq_true (List.all_eq_true.mp y.1.2 a (List.mem_range.mpr ha))⟩, List.isPerm_iff.mp y.2⟩
  exact ⟨z.1, fun b hb => (z2 b hb).1.1, fun a b ha hb => (z2 b hb).1.2 a ha, fun b hb => (z2 b hb).2⟩
theorem lot_inj_all : ((List.range 5).all fun k => (List.range (2 ^ k)).all fun a => (List.range (2 ^ k)).all fun b => decide (lotN k a = lotN k b → a = b)) = true := by decide +kernel
theorem lot_inj {k a b : Nat} (hk : k < 5) (ha : a < 2 ^ k) (hb : b < 2 ^ k) (h : lotN k a = lotN k b) : a = b :=
  of_decide_eq_true (List.all_eq_true.mp (List.all_eq_true.mp (List.all_eq_true.mp lot_inj_all k (List.mem_range.mpr hk)) a (List.mem_range.mpr ha)) b (List.mem_range.mpr hb)) h
end Pd

namespace PdK68
open PySem PySem.Spec PyProof.Rows L2 Pd
theorem k_draw {p : Pot} {m : Int} (hb : bOk p.b) (hm : 0 < m) (hm2 : m < 2 ^ 200) : Ok (t__law_draw p m) fun r => 0 ≤ r.1 ∧ r.1 < m ∧ bOk r.2.b := ok_draw hb hm hm2
theorem k_pick {p : Pot} {xs : List Int} (hb : bOk p.b) (hl : 0 < xs.length) (hl2 : xs.length < 1000) : Ok (t__law_pick p xs) fun r => r.1 ∈ xs ∧ bOk r.2.b := by
  unfold t__law_pick
  refine (k_draw hb (by omega) (by omega)).bd fun r hr => ?_
  obtain ⟨k, e, hk⟩ := nat_of hr.1 hr.2.1
  have hk' : k < xs.length := by omega
  rw [e]
  exact Ok.bdE (at_nat (List.getElem?_eq_getElem hk')) (Ok.ret ⟨List.getElem_mem hk', hr.2.2⟩)
theorem r_doubled {k : Nat} (hk : k ≤ 20) : t__law_doubled (k : Int) = some ((2 ^ k : Nat) : Int) := by
  unfold t__law_doubled
  have z := forM_rng (f := fun (a2 : Int) (s3 : Int) => gd (mulOk (2:Int) s3 = true) <| lt (((2:Int) * s3) : Int) fun w7 => some w7) (fun i => ((2 ^ i : Nat) : Int)) (n := k) fun i hi => by
    have h2 : (2 : Nat) ^ i ≤ 2 ^ 20 := Nat.pow_le_pow_right (by omega) (by omega)
    show gd (mulOk (2:Int) ((2 ^ i : Nat) : Int) = true) _ = _
    rw [gd_eq (Pd.mulOk_of 64 64 (by omega) (by rw [Int.natAbs_natCast]; omega) (by omega))]
    show some _ = some _
    rw [Nat.pow_succ, Int.natCast_mul, Int.mul_comm]
    rfl
  have z2 : Pd.forM _ (rng1 (k : Int)) (1:Int) = some ((2 ^ k : Nat) : Int) := z
  rw [gd_eq (ibd_nat (by omega)), z2]
  rfl
theorem r_lot {k a : Nat} (hk : k ≤ 20) : t__law_lot (k : Int) (a : Int) = some ⟨cI (lotN k a)⟩ := by
  unfold t__law_lot
  have z := forM_rng (f := fun (a2 : Int) (s3 : (List Int) × Int) => gd ((s3.1).length + ((if (decide ((s3.2 % (2:Int)) = (1:Int))) = true then [a2] else [])).length ≤ 16777216) <| lt ((s3.1 ++ (if (decide ((s3.2 % (2:Int)) = (1:Int))) = true then [a2] else [])) : (List Int)) fun w7 => lt ((s3.2 / (2:Int)) : Int) fun w8 => some (w7, w8)) (fun i => (cI (lotN i a), ((a / 2 ^ i : Nat) : Int))) (n := k) fun i hi => by
    have hl : (cI (lotN i a)).length ≤ i := by
      rw [cI_len]
      unfold lotN
      have := List.length_filter_le (fun j => bitB j a) (List.range i)
      rw [List.length_range] at this
      exact this
    have e1 : decide ((((a / 2 ^ i : Nat) : Int) % (2:Int)) = (1:Int)) = bitB i a := by
      unfold bitB
      exact decide_eq_decide.mpr (by omega)
    show gd ((cI (lotN i a)).length + ((if (decide ((((a / 2 ^ i : Nat) : Int) % (2:Int)) = (1:Int))) = true then [(i : Int)] else [])).length ≤ 16777216) (some (cI (lotN i a) ++ (if (decide ((((a / 2 ^ i : Nat) : Int) % (2:Int)) = (1:Int))) = true then [(i : Int)] else []), ((a / 2 ^ i : Nat) : Int) / (2:Int))) = _
    rw [e1]
    have e2 : ((a / 2 ^ i : Nat) : Int) / (2:Int) = ((a / 2 ^ (i + 1) : Nat) : Int) := by
      rw [Nat.pow_succ, ← Nat.div_div_eq_div_mul]
      rfl
    have e3 : cI (lotN i a) ++ (if bitB i a = true then [(i : Int)] else []) = cI (lotN (i + 1) a) := by
      unfold lotN
      rw [List.range_succ, List.filter_append]
      unfold cI
      rw [List.map_append]
      congr 1
      by_cases h : bitB i a = true
      · rw [if_pos h, List.filter_cons, if_pos h]
        rfl
      · rw [if_neg h, List.filter_cons, if_neg h]
        rfl
    rw [gd_eq (by split <;> simp <;> omega), e3, e2]
  have e0 : ((a / 2 ^ 0 : Nat) : Int) = (a : Int) := by rw [Nat.pow_zero, Nat.div_one]
  have z2 : Pd.forM _ (rng1 (k : Int)) ([], ((a / 2 ^ 0 : Nat) : Int)) = _ := z
  rw [e0] at z2
  rw [gd_eq (ibd_nat (by omega)), z2]
  rfl
theorem k_numbers {p : Pot} {m : Nat} (hb : bOk p.b) (hm : m ≤ 1000) : Ok (t__law_numbers p (m : Int)) fun r => (r.1.length = m ∧ ∀ x ∈ r.1, x.natAbs ≤ 10000000000000000000000000) ∧ bOk r.2.b := by
  unfold t__law_numbers
  refine (k_pick hb (by simp) (by simp)).bd fun r hr => ?_
  have hs : 1 ≤ r.1 ∧ r.1 ≤ 10000000000000000000000000 := by
    have h := hr.1
    simp only [List.mem_cons, List.not_mem_nil, or_false] at h
    omega
  refine Ok.gd (ibd_nat (by omega)) (Ok.gd (by rw [rng1_len]; omega) ?_)
  refine (mpS_inv (fun q => bOk q.b) (fun x : Int => x.natAbs ≤ 10000000000000000000000000) (fun a _ s hsb => ?_) hr.2).bd fun r3 hr3 => Ok.ret ⟨⟨?_, hr3.1.2⟩, hr3.2⟩
  · refine Ok.gd (Pd.mulOk_of 2 200 (by decide) (by omega) (by omega)) ((k_draw hsb (by omega) (by omega)).bd fun r4 hr4 => Ok.ret ⟨?_, hr4.2.2⟩)
    dsimp only
    omega
  · rw [hr3.1.1, rng1_len]
/-- all lots -/
def lotsT (k : Nat) : List (Tp Int) := (List.range (2 ^ k)).map fun a => ⟨cI (lotN k a)⟩
theorem r_lots {k : Nat} (hk : k ≤ 9) : mpM (fun (a6 : Int) => bd (t__law_lot (k : Int) a6) fun r8 => some r8) (rng1 ((2 ^ k : Nat) : Int)) = some (lotsT k) := mpM_rng fun i hi => by
  rw [r_lot (by omega)]
  rfl
theorem sub_eq (k a b : Nat) : ((((cI (lotN k b)).map (fun (a17 : Int) => ((cI (lotN k a)).contains a17)))).all id) = subT k b a := by
  unfold subT
  rw [List.all_map]
  unfold cI
  rw [List.all_map]
  congr 1
  funext t
  show (((lotN k a).map fun (k : Nat) => (k : Int)).contains (t : Int)) = _
  refine bool_ext ?_
  rw [List.contains_iff_mem, List.contains_iff_mem, List.mem_map]
  constructor
  · rintro ⟨x, hx, e⟩
    have : x = t := by omega
    exact this ▸ hx
  · intro h
    exact ⟨t, h, rfl⟩
theorem lot_len (k a : Nat) : (cI (lotN k a)).length ≤ k := by
  rw [cI_len]
  unfold lotN
  have := List.length_filter_le (fun j => bitB j a) (List.range k)
  rw [List.length_range] at this
  exact this
theorem lotsT_len (k : Nat) : (lotsT k).length = 2 ^ k := by
  unfold lotsT
  rw [List.length_map, List.length_range]
theorem fmM_ofG {α β : Type} {c : α → Option Bool} {f : α → Option β} {g : α → Bool} {h : α → β} : ∀ {xs : List α}, (∀ a ∈ xs, c a = some (g a)) → (∀ a ∈ xs, f a = some (h a)) → fmM c f xs = some ((xs.filter g).map h)
  | [], _, _ => rfl
  | x :: xs, h1, h2 => by
    have ih := fmM_ofG (c := c) (f := f) (g := g) (h := h) (xs := xs) (fun a ha => h1 a (List.mem_cons_of_mem _ ha)) (fun a ha => h2 a (List.mem_cons_of_mem _ ha))
    have e1 := h1 x List.mem_cons_self
    have e2 := h2 x List.mem_cons_self
    rw [List.filter_cons]
    unfold fmM
    rw [e1, e2, ih]
    cases g x <;> rfl
theorem enum_lots (k : Nat) : enumT 0 (lotsT k) = (List.range (2 ^ k)).map fun (a : Nat) => ((a : Int), (⟨cI (lotN k a)⟩ : Tp Int)) := by
  have gen : ∀ (n s : Nat), enumT s ((List.range' s n).map fun (a : Nat) => (⟨cI (lotN k a)⟩ : Tp Int)) = (List.range' s n).map fun (a : Nat) => ((a : Int), (⟨cI (lotN k a)⟩ : Tp Int)) := by
    intro n
    induction n with
    | zero => intro s; rfl
    | succ n ih =>
      intro s
      rw [List.range'_succ, List.map_cons, List.map_cons, ← ih (s + 1)]
      rfl
  unfold lotsT
  rw [List.range_eq_range']
  exact gen (2 ^ k) 0
theorem r_inner {k a : Nat} (hk : k ≤ 9) {xs : List Int} (hl : xs.length = 2 ^ k) : fmM (fun (a15 : (Int × (Tp Int))) => gd ((a15.2.l).length < 16777216) <| some ((((a15.2.l).map (fun (a17 : Int) => ((cI (lotN k a)).contains a17)))).all id)) (fun (a15 : (Int × (Tp Int))) => bd (L2.atI xs a15.1) fun v19 => some v19) (enumT 0 (lotsT k)) = some (((List.range (2 ^ k)).filter fun b => subT k b a).map (gt xs)) := by
  rw [fmM_ofG (g := fun a15 => (((a15.2.l).map (fun (a17 : Int) => ((cI (lotN k a)).contains a17)))).all id) (h := fun a15 => gt xs a15.1.toNat) (fun p hp => ?_) (fun p hp => ?_)]
  · rw [enum_lots, List.filter_map, List.map_map]
    congr 1
    have e : ((fun a15 : Int × Tp Int => (((a15.2.l).map (fun (a17 : Int) => ((cI (lotN k a)).contains a17)))).all id) ∘ fun b : Nat => ((b : Int), (⟨cI (lotN k b)⟩ : Tp Int))) = fun b => subT k b a := funext fun b => sub_eq k a b
    rw [e]
    rfl
  · rw [enum_lots, List.mem_map] at hp
    obtain ⟨b, _, e⟩ := hp
    subst e
    have := lot_len k b
    exact gd_eq (by show (cI (lotN k b)).length < _; omega)
  · rw [enum_lots, List.mem_map] at hp
    obtain ⟨b, hb, e⟩ := hp
    subst e
    rw [List.mem_range] at hb
    show bd (L2.atI xs (b : Int)) _ = _
    rw [at_nat (gt_some (by omega)), Int.toNat_natCast]
    rfl
theorem fr_app {α β : Type} {f : α → List β → Option (List β)} {g : α → β} {N : Nat} : ∀ (xs : List α) (acc : List β), (∀ a ∈ xs, ∀ s : List β, s.length < N → f a s = some (s ++ [g a])) → acc.length + xs.length ≤ N → Pd.forM f xs acc = some (acc ++ xs.map g)
  | [], acc, _, _ => by
    show some acc = some (acc ++ [])
    rw [List.append_nil]
  | x :: xs, acc, h, hl => by
    rw [List.length_cons] at hl
    have ih := fr_app xs (acc ++ [g x]) (fun a ha => h a (List.mem_cons_of_mem _ ha)) (by simp; omega)
    show bd (f x acc) (Pd.forM f xs) = _
    rw [h x List.mem_cons_self acc (by omega), bd_eq, ih, List.append_assoc]
    rfl
theorem r_due {k : Nat} (hk : k < 7) {xs : List Int} (hl : xs.length = 2 ^ k) : Pd.forM (fun (a11 : (Tp Int)) (s12 : (List Int)) => gd (((enumT 0 (lotsT k))).length < 16777216) <| bd (fmM (fun (a15 : (Int × (Tp Int))) => gd ((a15.2.l).length < 16777216) <| some ((((a15.2.l).map (fun (a17 : Int) => ((a11.l).contains a17)))).all id)) (fun (a15 : (Int × (Tp Int))) => bd (L2.atI xs a15.1) fun v19 => some v19) (enumT 0 (lotsT k))) fun v20 => gd ((s12).length < 16777216) <| lt ((s12 ++ [(v20).sum]) : (List Int)) fun w22 => some w22) (lotsT k) [] = some (lsO 1 k xs) := by
  have hle : (2 : Nat) ^ k ≤ 2 ^ 7 := Nat.pow_le_pow_right (by omega) (by omega)
  have gen : ∀ (as : List Nat), (∀ a ∈ as, a < 2 ^ k) → ∀ (acc : List Int), acc.length + as.length ≤ 10000 → Pd.forM (fun (a11 : (Tp Int)) (s12 : (List Int)) => gd (((enumT 0 (lotsT k))).length < 16777216) <| bd (fmM (fun (a15 : (Int × (Tp Int))) => gd ((a15.2.l).length < 16777216) <| some ((((a15.2.l).map (fun (a17 : Int) => ((a11.l).contains a17)))).all id)) (fun (a15 : (Int × (Tp Int))) => bd (L2.atI xs a15.1) fun v19 => some v19) (enumT 0 (lotsT k))) fun v20 => gd ((s12).length < 16777216) <| lt ((s12 ++ [(v20).sum]) : (List Int)) fun w22 => some w22) (as.map fun a => (⟨cI (lotN k a)⟩ : Tp Int)) acc = some (acc ++ as.map fun a => opO 1 k (gt xs) a) := by
    intro as
    induction as with
    | nil => intro _ acc _; show some acc = some (acc ++ []); rw [List.append_nil]
    | cons a as ih =>
      intro ha acc hacc
      rw [List.length_cons] at hacc
      have h1 := ha a List.mem_cons_self
      have ih := ih (fun b hb => ha b (List.mem_cons_of_mem _ hb)) (acc ++ [opO 1 k (gt xs) a]) (by simp; omega)
      show bd (gd ((enumT 0 (lotsT k)).length < 16777216) (bd (fmM (fun (a15 : (Int × (Tp Int))) => gd ((a15.2.l).length < 16777216) <| some ((((a15.2.l).map (fun (a17 : Int) => ((cI (lotN k a)).contains a17)))).all id)) (fun (a15 : (Int × (Tp Int))) => bd (L2.atI xs a15.1) fun v19 => some v19) (enumT 0 (lotsT k))) fun v20 => gd (acc.length < 16777216) (some (acc ++ [(v20).sum])))) _ = _
      rw [gd_eq (by rw [enumT_len, lotsT_len]; omega), r_inner (by omega) hl, bd_eq, gd_eq (by omega), bd_eq, sub_at hk h1, ← opO_sum, ih, List.append_assoc]
      rfl
  have z := gen (List.range (2 ^ k)) (fun a ha => List.mem_range.mp ha) [] (by simp; omega)
  unfold lsO
  rw [hl]
  exact z
theorem lsO_abs {b : Int} (hb : b = 1 ∨ b = -1) {k B : Nat} {xs : List Int} (h : ∀ x ∈ xs, x.natAbs ≤ B) (hk : k ≤ 9) : ∀ x ∈ lsO b k xs, x.natAbs ≤ 512 * B := fun x hx => by
  unfold lsO at hx
  rw [List.mem_map] at hx
  obtain ⟨a, _, e⟩ := hx
  have z := opO_abs hb (gt_absB h) k a
  have hle : (2 : Nat) ^ k ≤ 2 ^ 9 := Nat.pow_le_pow_right (by omega) hk
  have z2 : 2 ^ k * B ≤ 512 * B := Nat.mul_le_mul_right _ hle
  rw [← e]
  omega
theorem k_great {g : Pot} (hb : bOk g.b) : Ok (t__law_great_right g) fun _ => True := by
  unfold t__law_great_right
  refine (k_draw hb (by omega) (by omega)).bd fun r1 h1 => ?_
  obtain ⟨d, ed, hd⟩ := nat_of h1.1 h1.2.1
  obtain ⟨k, ek, hk1, hk2⟩ : ∃ k : Nat, (7:Int) + r1.1 = (k : Int) ∧ 7 ≤ k ∧ k ≤ 9 := ⟨7 + d, by omega, by omega, by omega⟩
  rw [ek]
  have hle : (2 : Nat) ^ k ≤ 2 ^ 9 := Nat.pow_le_pow_right (by omega) hk2
  have hpos : 0 < (2 : Nat) ^ k := Nat.pow_pos (by omega)
  refine Ok.bdE (r_doubled (by omega)) ((k_numbers h1.2.2 (by omega)).bd fun r3 h3 => ?_)
  obtain ⟨⟨hl, hB⟩, hb3⟩ := h3
  have s1 := r_lotsSummed hk2 (q := ⟨false, r3.1⟩) hl hB (by decide)
  have hl2 : (lsO 1 k r3.1).length = 2 ^ k := by rw [lsO_len]; exact hl
  have hl3 : (lsO (-1) k r3.1).length = 2 ^ k := by rw [lsO_len]; exact hl
  have s2 := r_lotsBack hk2 (q := ⟨false, lsO 1 k r3.1⟩) hl2 (lsO_abs (.inl rfl) hB hk2) (by decide)
  have s3 := r_lotsBack hk2 (q := ⟨false, r3.1⟩) hl hB (by decide)
  have s4 := r_lotsSummed hk2 (q := ⟨false, lsO (-1) k r3.1⟩) hl3 (lsO_abs (.inr rfl) hB hk2) (by decide)
  have b1 : lsO (-1) k (lsO 1 k r3.1) = r3.1 := lsO_back (.inl rfl) k r3.1
  have b2 : lsO 1 k (lsO (-1) k r3.1) = r3.1 := lsO_back (.inr rfl) k r3.1
  have a0 : ∀ ys : List Int, ys.length = 2 ^ k → L2.atI ys (0:Int) = some (gt ys 0) := fun ys hy => at_nat (i := 0) (gt_some (by omega))
  have aL : L2.atI (lsO 1 k r3.1) (-1:Int) = some (r3.1).sum := by
    obtain ⟨n, en⟩ : ∃ n, 2 ^ k = n + 1 := ⟨2 ^ k - 1, by omega⟩
    have e : lsO 1 k r3.1 = (List.range n).map (opO 1 k (gt r3.1)) ++ [opO 1 k (gt r3.1) n] := by
      unfold lsO
      rw [hl, en, List.range_succ, List.map_append]
      rfl
    rw [e, at_last, opO_sum]
    have hf : subL k n = List.range (2 ^ k) := by
      have z := List.all_eq_true.mp sub_full k (by simp only [List.mem_cons, List.not_mem_nil, or_false]; omega)
      have z := of_decide_eq_true z
      rw [show 2 ^ k - 1 = n by omega] at z
      exact z
    rw [hf, ← hl, ← list_range]
  have h0 : gt (lsO 1 k r3.1) 0 = gt r3.1 0 := by
    rw [gt_lsO (by omega), opO_sum, subL_zero]
    simp
  refine Ok.bdE s1 (Ok.bdE aL (Ok.gd rfl (Ok.bdE (a0 _ hl2) (Ok.bdE (a0 _ hl) (Ok.gd h0 (Ok.bdE s2 (Ok.gd b1 (Ok.bdE s3 (Ok.bdE s4 (Ok.gd b2 (Ok.ret trivial)))))))))))
theorem wrN {xs : List Int} {n B : Nat} (hl : xs.length ≤ n) (hB : ∀ x ∈ xs, x.natAbs ≤ B) (hb : B < 2 ^ 200) : WrD (.list (encL xs)) 1 ((200 + 5) * n + 3) := WrD.ints (b := 200) (fun x hx => Nat.lt_of_le_of_lt (hB x hx) hb) hl
theorem k_small {g : Pot} {most : Nat} (hb : bOk g.b) (hm : most ≤ 6) : Ok (t__law_small_right g (most : Int)) fun r => bOk r.2.b := by
  unfold t__law_small_right
  have em : (most : Int) + 1 = ((most + 1 : Nat) : Int) := by omega
  rw [em]
  refine (k_draw hb (by omega) (by omega)).bd fun r1 h1 => ?_
  obtain ⟨k, ek, hk⟩ := nat_of h1.1 h1.2.1
  rw [ek]
  have hk7 : k < 7 := by omega
  have hle : (2 : Nat) ^ k ≤ 2 ^ 6 := Nat.pow_le_pow_right (by omega) (by omega)
  have hpos : 0 < (2 : Nat) ^ k := Nat.pow_pos (by omega)
  refine Ok.bdE (r_doubled (by omega)) ((k_numbers h1.2.2 (by omega)).bd fun r3 h3 => ?_)
  obtain ⟨⟨hl, hB⟩, hb3⟩ := h3
  have s1 : ∀ b, t_lots_summed (Sq.mk b r3.1) = some (lsO 1 k r3.1) := fun b => r_lotsSummed (by omega) (q := ⟨b, r3.1⟩) hl hB (by decide)
  have hl2 : (lsO 1 k r3.1).length = 2 ^ k := by rw [lsO_len]; exact hl
  have hB2 := lsO_abs (.inl rfl) hB (show k ≤ 9 by omega)
  have b1 : lsO (-1) k (lsO 1 k r3.1) = r3.1 := lsO_back (.inl rfl) k r3.1
  have s2 : ∀ b, t_lots_taken_back (Sq.mk b (lsO 1 k r3.1)) = some r3.1 := fun b => by
    rw [r_lotsBack (by omega) (q := ⟨b, lsO 1 k r3.1⟩) hl2 hB2 (by decide), b1]
  have w1 := wrN (n := 64) (by omega) hB (by decide)
  have w2 := wrN (n := 64) (by omega) hB2 (by decide)
  have eL : ∀ ys : List Int, ys.length ≤ 64 → (encL ys).length < 16777216 := fun ys hy => by
    show (ys.map _).length < _
    rw [List.length_map]
    omega
  refine Ok.gd w1.ok ?_
  rw [hl]
  refine Ok.gd (ibd_nat (by omega)) (Ok.gd (by rw [rng1_len]; omega) (Ok.bdE (r_lots (by omega)) (Ok.lt (Ok.bdE (r_due hk7 hl) (Ok.bdE (s1 _) (Ok.bdE (s1 _) (Ok.gd ⟨rfl, rfl⟩ (Ok.gd w2.two.ok (Ok.gd (eL _ (by omega)) (Ok.lt (Ok.bdE (s2 _) (Ok.bdE (s2 _) (Ok.gd ⟨rfl, rfl⟩ (Ok.gd w1.two.ok (Ok.gd (eL _ (by omega)) (Ok.lt (Ok.bdE (s2 _) (Ok.gd rfl (Ok.gd w1.ok ?_)))))))))))))))))))
  refine (k_draw hb3 (by omega) (by omega)).bd fun r40 h40 => ?_
  obtain ⟨a, ea, ha⟩ := nat_of h40.1 h40.2.1
  rw [ea]
  have ha' : a < 2 ^ k := by omega
  have eu : (rng1 ((2 ^ k : Nat) : Int)).map (fun (a42 : Int) => (if (decide (a42 = (a : Int))) = true then (1:Int) else (0:Int))) = unitL k a := by
    unfold unitL
    rw [rng1_nat, List.map_map]
    refine List.map_congr_left fun c _ => ?_
    show (if decide ((c : Int) = (a : Int)) = true then (1:Int) else 0) = _
    by_cases h : c = a
    · rw [if_pos h, if_pos (by rw [decide_eq_true_eq]; omega)]
    · rw [if_neg h, if_neg (by rw [decide_eq_true_eq]; omega)]
  have hat : L2.atI (lotsT k) (a : Int) = some ⟨cI (lotN k a)⟩ := at_nat (by
    unfold lotsT
    rw [List.getElem?_map, List.getElem?_range ha']
    rfl)
  have esg : mpM (fun (a45 : (Tp Int)) => bd (L2.atI (lotsT k) (a : Int)) fun v47 => gd ((v47.l).length < 16777216) <| bd (if ((((v47.l).map (fun (a48 : Int) => ((a45.l).contains a48)))).all id) = true then bd (L2.atI (lotsT k) (a : Int)) fun v51 => some (if (decide ((((a45.l.length : Int) - (v51.l.length : Int)) % (2:Int)) = (0:Int))) = true then (1:Int) else (-1:Int)) else some (0:Int)) fun v50 => some v50) (lotsT k) = some (sgL k a) := by
    have gen : ∀ cs : List Nat, mpM (fun (a45 : (Tp Int)) => bd (L2.atI (lotsT k) (a : Int)) fun v47 => gd ((v47.l).length < 16777216) <| bd (if ((((v47.l).map (fun (a48 : Int) => ((a45.l).contains a48)))).all id) = true then bd (L2.atI (lotsT k) (a : Int)) fun v51 => some (if (decide ((((a45.l.length : Int) - (v51.l.length : Int)) % (2:Int)) = (0:Int))) = true then (1:Int) else (-1:Int)) else some (0:Int)) fun v50 => some v50) (cs.map fun c => (⟨cI (lotN k c)⟩ : Tp Int)) = some (cs.map fun c => if subT k a c = true then (if (((lotN k c).length : Int) - ((lotN k a).length : Int)) % 2 = 0 then 1 else -1) else 0) := by
      intro cs
      induction cs with
      | nil => rfl
      | cons c cs ih =>
        have hll := lot_len k a
        rw [hat] at ih
        show bd (bd (L2.atI (lotsT k) (a : Int)) fun v47 => gd ((v47.l).length < 16777216) <| bd (if ((((v47.l).map (fun (a48 : Int) => ((cI (lotN k c)).contains a48)))).all id) = true then bd (L2.atI (lotsT k) (a : Int)) fun v51 => some (if (decide (((((cI (lotN k c)).length : Int) - (v51.l.length : Int)) % (2:Int)) = (0:Int))) = true then (1:Int) else (-1:Int)) else some (0:Int)) fun v50 => some v50) _ = _
        rw [hat, bd_eq]
        show bd (gd ((cI (lotN k a)).length < 16777216) (bd (if ((((cI (lotN k a)).map (fun (a48 : Int) => ((cI (lotN k c)).contains a48)))).all id) = true then some (if (decide (((((cI (lotN k c)).length : Int) - ((cI (lotN k a)).length : Int)) % (2:Int)) = (0:Int))) = true then (1:Int) else (-1:Int)) else some (0:Int)) fun v50 => some v50)) _ = _
        rw [gd_eq (by omega), sub_eq, cI_len, cI_len]
        by_cases h : subT k a c = true
        · rw [if_pos h, bd_eq, bd_eq, ih, bd_eq, List.map_cons, if_pos h]
          congr 2
          by_cases h2 : (((lotN k c).length : Int) - ((lotN k a).length : Int)) % 2 = 0
          · rw [if_pos h2, if_pos (by rw [decide_eq_true_eq]; exact h2)]
          · rw [if_neg h2, if_neg (by rw [decide_eq_true_eq]; exact h2)]
        · rw [if_neg h, bd_eq, bd_eq, ih, bd_eq, List.map_cons, if_neg h]
    exact gen (List.range (2 ^ k))
  have hul : (unitL k a).length = 2 ^ k := by
    unfold unitL
    simp
  have huB : ∀ x ∈ unitL k a, x.natAbs ≤ 1 := fun x hx => by
    unfold unitL at hx
    rw [List.mem_map] at hx
    obtain ⟨c, _, e⟩ := hx
    rw [← e]
    split <;> decide
  have u1 : t_lots_taken_back (Sq.mk false (unitL k a)) = some (sgL k a) := by
    rw [r_lotsBack (by omega) (q := ⟨false, unitL k a⟩) hul huB (by decide), sg_at hk7 ha']
  have u2 : t_lots_summed (Sq.mk false (sgL k a)) = some (unitL k a) := by
    have z := r_lotsSummed (show k ≤ 9 by omega) (q := ⟨false, lsO (-1) k (unitL k a)⟩) (by rw [lsO_len]; exact hul) (lsO_abs (.inr rfl) huB (by omega)) (by decide)
    have b2 : lsO 1 k (lsO (-1) k (unitL k a)) = unitL k a := lsO_back (.inr rfl) k _
    rw [sg_at hk7 ha'] at z b2
    rw [z, b2]
  refine Ok.gd (ibd_nat (by omega)) (Ok.gd (by rw [rng1_len]; omega) ?_)
  rw [eu]
  exact Ok.lt (Ok.gd (by rw [lotsT_len]; omega) (Ok.bdE esg (Ok.bdE u1 (Ok.gd rfl (Ok.bdE u2 (Ok.gd rfl (Ok.gd w1.ok (Ok.gd rfl (Ok.ret h40.2.2)))))))))
theorem popAt_perm {xs : List Int} {i : Nat} (h : i < xs.length) (h2 : xs.length ≤ 1000) : ∃ v r, popAt xs (i : Int) = some (v, r) ∧ (v :: r).Perm xs := by
  refine ⟨xs[i], xs.eraseIdx i, ?_, ?_⟩
  · unfold popAt
    rw [if_pos ⟨by omega, by omega⟩]
    have e : L2.ixN xs.length (i : Int) = some i := by
      unfold L2.ixN
      rw [if_pos (by omega)]
      simp
      omega
    rw [e]
    show (xs[i]?).map _ = _
    rw [List.getElem?_eq_getElem h]
    rfl
  · have gen : ∀ (ys : List Int) (j : Nat) (hj : j < ys.length), (ys[j] :: ys.eraseIdx j).Perm ys := by
      intro ys
      induction ys with
      | nil => intro j hj; cases hj
      | cons y ys ih =>
        intro j hj
        cases j with
        | zero => exact List.Perm.refl _
        | succ j =>
          have z := ih j (by simpa using hj)
          show (ys[j]'(by simpa using hj) :: y :: ys.eraseIdx j).Perm (y :: ys)
          exact (List.Perm.swap _ _ _).trans (z.cons y)
    exact gen xs i h
theorem k_mixF : ∀ (n : Nat) (g : Pot) (left found : List Int), bOk g.b → left.length ≤ n → found.length + left.length ≤ 900 → Ok (whM (fun (s1 : Pot × (List Int) × (List Int)) =>  some (!dec (s1.2.1 = []))) (fun (s1 : Pot × (List Int) × (List Int)) => bd (t__law_draw s1.1 ((s1.2.1).length : Int)) fun r5 => bd (popAt s1.2.1 r5.1) fun v6 => gd ((s1.2.2).length < 16777216) <| lt ((s1.2.2 ++ [v6.1]) : (List Int)) fun w8 => some (r5.2, (v6.2, w8))) (n + 1) (g, (left, found))) fun r => r.2.2.Perm (found ++ left) ∧ bOk r.1.b
  | n, g, [], found, hb, _, _ => by
    unfold whM
    show Ok (bd (some (!dec (([] : List Int) = []))) _) _
    rw [dec_T rfl]
    exact Ok.ret ⟨by rw [List.append_nil], hb⟩
  | 0, g, x :: xs, found, hb, hn, _ => by simp at hn
  | n + 1, g, x :: xs, found, hb, hn, hl => by
    unfold whM
    show Ok (bd (some (!dec ((x :: xs) = []))) _) _
    rw [dec_F (by simp)]
    show Ok (bd (bd (t__law_draw g (((x :: xs).length : Nat) : Int)) fun r5 => bd (popAt (x :: xs) r5.1) fun v6 => gd (found.length < 16777216) (some (r5.2, (v6.2, found ++ [v6.1])))) _) _
    refine Ok.bd (P := fun s => ∃ v, s.2.2 = found ++ [v] ∧ (v :: s.2.1).Perm (x :: xs) ∧ bOk s.1.b) ?_ fun s hs => ?_
    · refine (k_draw hb (by simp) (by omega)).bd fun r5 h5 => ?_
      obtain ⟨i, e, hi⟩ := nat_of h5.1 h5.2.1
      obtain ⟨v, r, ep, hp⟩ := popAt_perm (xs := x :: xs) (i := i) (by omega) (by omega)
      rw [e]
      exact Ok.bdE ep (Ok.gd (by omega) (Ok.ret ⟨v, rfl, hp, h5.2.2⟩))
    · obtain ⟨v, e1, hp, hb2⟩ := hs
      obtain ⟨s1, s2, s3⟩ := s
      dsimp only at e1 hp hb2
      subst e1
      have hlen := hp.length_eq
      rw [List.length_cons] at hlen
      refine (k_mixF n s1 s2 (found ++ [v]) hb2 (by omega) (by simp at hl hlen ⊢; omega)).imp fun r hr => ⟨?_, hr.2⟩
      refine hr.1.trans ?_
      rw [List.append_assoc]
      exact hp.append_left found
/-! marks -/
def mk (k a : Nat) : Tp Int := ⟨cI (lotN k a)⟩
theorem cI_inj : ∀ {a b : List Nat}, cI a = cI b → a = b
  | [], [], _ => rfl
  | x :: xs, y :: ys, h => by
    have h : (x : Int) :: cI xs = (y : Int) :: cI ys := h
    injection h with h1 h2
    rw [cI_inj h2, show x = y by omega]
theorem mk_inj {k a b : Nat} (hk : k < 5) (ha : a < 2 ^ k) (hb : b < 2 ^ k) : mk k a = mk k b ↔ a = b := ⟨fun h => lot_inj hk ha hb (cI_inj (congrArg Tp.l h)), fun h => by rw [h]⟩
def justL (k : Nat) (is : List Nat) : List Int := (List.range (2 ^ k)).map fun b => ((is.countP fun i => decide (i = b) : Nat) : Int)
def mostL (k : Nat) (is : List Nat) : List Int := (List.range (2 ^ k)).map fun a => (((is.filter fun i => subT k i a).length : Nat) : Int)
theorem cnt_sum (is : List Nat) : ∀ (L : List Nat), L.Nodup → (L.map fun b => ((is.countP fun i => decide (i = b) : Nat) : Int)).sum = ((is.countP fun i => decide (i ∈ L) : Nat) : Int)
  | [], _ => by simp
  | b :: L, h => by
    obtain ⟨h1, h2⟩ := List.nodup_cons.mp h
    rw [List.map_cons, List.sum_cons, cnt_sum is L h2, ← Int.natCast_add]
    congr 1
    clear h h2
    induction is with
    | nil => rfl
    | cons i is ih =>
      rw [List.countP_cons, List.countP_cons, List.countP_cons]
      by_cases e : i = b
      · subst e
        rw [if_pos (by simp), if_neg (by simpa using h1), if_pos (by simp)]
        omega
      · by_cases e2 : i ∈ L
        · rw [if_neg (by simpa using e), if_pos (by simpa using e2), if_pos (by simp [e2])]
          omega
        · rw [if_neg (by simpa using e), if_neg (by simpa using e2), if_neg (by simp [e, e2])]
          omega
theorem subL_nodup {k a : Nat} (hk : k < 7) (ha : a < 2 ^ k) : (subL k a).Nodup := by
  rw [← sub_at hk ha]
  exact List.nodup_range.filter _
theorem just_most {k : Nat} (hk : k < 7) {is : List Nat} (h : ∀ i ∈ is, i < 2 ^ k) : lsO 1 k (justL k is) = mostL k is := by
  have hl : (justL k is).length = 2 ^ k := by
    unfold justL
    simp
  unfold lsO mostL
  rw [hl]
  refine List.map_congr_left fun a ha => ?_
  rw [List.mem_range] at ha
  rw [opO_sum]
  have e : (subL k a).map (gt (justL k is)) = (subL k a).map fun b => ((is.countP fun i => decide (i = b) : Nat) : Int) := by
    refine List.map_congr_left fun b hb => ?_
    rw [← sub_at hk ha, List.mem_filter, List.mem_range] at hb
    exact gt_range hb.1
  rw [e, cnt_sum is _ (subL_nodup hk ha), List.countP_eq_length_filter]
  congr 2
  refine List.filter_congr fun i hi => ?_
  rw [← sub_at hk ha]
  have := h i hi
  simp [this]
theorem setAt_nat {xs : List Int} {i : Nat} {v : Int} (h : i < xs.length) : setAt xs (i : Int) v = some (xs.set i v) := by
  unfold setAt L2.ixN
  rw [if_pos (by omega), if_pos (by omega)]
  rfl
theorem gt_set {xs : List Int} {i c : Nat} {v : Int} (h : i < xs.length) : gt (xs.set i v) c = if c = i then v else gt xs c := by
  unfold gt
  rw [List.getD_eq_getElem?_getD, List.getD_eq_getElem?_getD]
  by_cases e : c = i
  · subst e
    rw [if_pos rfl, List.getElem?_set_self h]
    rfl
  · rw [if_neg e, List.getElem?_set_ne (Ne.symm e)]
theorem r_late {n : Nat} {pi_ : Nat → Nat} (hp : ∀ b, b < n → pi_ b < n) (hi : ∀ a b, a < n → b < n → pi_ a = pi_ b → a = b) : ∀ (ys : List Int) (s : Nat) (L : List Int), s + ys.length = n → L.length = n → ∃ L' : List Int, Pd.forM (fun (a44 : (Int × Int)) (s45 : (List Int)) => bd (L2.atI ((List.range n).map fun b => (pi_ b : Int)) a44.1) fun v48 => bd (setAt s45 v48 a44.2) fun v49 => some v49) (enumT s ys) L = some L' ∧ L'.length = n ∧ (∀ b, s ≤ b → b < n → gt L' (pi_ b) = gt ys (b - s)) ∧ ∀ c, (∀ b, s ≤ b → b < n → pi_ b ≠ c) → gt L' c = gt L c
  | [], s, L, hs, hL => ⟨L, rfl, hL, fun b h1 h2 => by simp at hs; omega, fun c _ => rfl⟩
  | y :: ys, s, L, hs, hL => by
    rw [List.length_cons] at hs
    have h1 := hp s (by omega)
    obtain ⟨L', z1, z2, z3, z4⟩ := r_late hp hi ys (s + 1) (L.set (pi_ s) y) (by omega) (by rw [List.length_set]; exact hL)
    refine ⟨L', ?_, z2, fun b hb1 hb2 => ?_, fun c hc => ?_⟩
    · show bd (bd (L2.atI ((List.range n).map fun b => (pi_ b : Int)) (s : Int)) fun v48 => bd (setAt L v48 y) fun v49 => some v49) _ = _
      rw [at_nat (show ((List.range n).map fun b => (pi_ b : Int))[s]? = some (pi_ s : Int) by rw [List.getElem?_map, List.getElem?_range (by omega)]; rfl), bd_eq, setAt_nat (by omega), bd_eq, bd_eq]
      exact z1
    · by_cases e : b = s
      · subst e
        rw [z4 (pi_ b) (fun c hc1 hc2 z => by have := hi c b hc2 hb2 z; omega), gt_set (by omega), if_pos rfl, Nat.sub_self]
        rfl
      · rw [z3 b (by omega) hb2]
        have e2 : b - s = (b - (s + 1)) + 1 := by omega
        rw [e2]
        rfl
    · rw [z4 c fun b hb1 hb2 => hc b (by omega) hb2, gt_set (by omega), if_neg fun z => hc s (Nat.le_refl _) (by omega) z.symm]
theorem perm_sum {a b : List Int} (h : a.Perm b) : a.sum = b.sum := by
  induction h with
  | nil => rfl
  | cons x _ ih => rw [List.sum_cons, List.sum_cons, ih]
  | swap x y l =>
    rw [List.sum_cons, List.sum_cons, List.sum_cons, List.sum_cons]
    omega
  | trans _ _ ih1 ih2 => rw [ih1, ih2]
/-- sums move with the things -/
theorem moved_sum {k : Nat} {o js late : List Int} (F : PiF k o) (hl : js.length = 2 ^ k) (hl2 : late.length = 2 ^ k) (h : ∀ b, b < 2 ^ k → gt late (piN o k b) = gt js b) (hk : k < 7) {a : Nat} (ha : a < 2 ^ k) : gt (lsO 1 k late) (piN o k a) = gt (lsO 1 k js) a := by
  rw [gt_lsO (by rw [hl2]; exact (F.fnd a ha).2), gt_lsO (by omega), opO_sum, opO_sum, perm_sum ((F.per a ha).map (gt late)), List.map_map]
  refine congrArg List.sum (List.map_congr_left fun b hb => ?_)
  rw [← sub_at hk ha, List.mem_filter, List.mem_range] at hb
  exact h b hb.1
theorem k_mixed {p : Pot} {xs : List Int} (hb : bOk p.b) (hl : xs.length ≤ 900) : Ok (t__law_mixed p xs) fun r => r.1.Perm xs ∧ bOk r.2.b := by
  unfold t__law_mixed
  obtain ⟨s, e, h⟩ := k_mixF 900 p xs [] hb hl (by simp; omega)
  exact Ok.bdE (whM_mono (n := nF) (show 900 + 1 ≤ 1000 by omega) e) (Ok.ret ⟨by simpa using h.1, h.2⟩)
theorem marks_of {k : Nat} : ∀ {xs : List (Tp Int)}, (∀ x ∈ xs, ∃ i, i < 2 ^ k ∧ x = mk k i) → ∃ is : List Nat, xs = is.map (mk k) ∧ ∀ i ∈ is, i < 2 ^ k
  | [], _ => ⟨[], rfl, fun i hi => nomatch hi⟩
  | x :: xs, h => by
    obtain ⟨i, hi, e⟩ := h x List.mem_cons_self
    obtain ⟨is, e2, h2⟩ := marks_of (xs := xs) fun y hy => h y (List.mem_cons_of_mem _ hy)
    refine ⟨i :: is, by rw [e, e2]; rfl, fun j hj => ?_⟩
    rcases List.mem_cons.mp hj with z | z
    · rw [z]
      exact hi
    · exact h2 j z
theorem lots_at {k a : Nat} (h : a < 2 ^ k) : L2.atI (lotsT k) (a : Int) = some (mk k a) := at_nat (by
  unfold lotsT
  rw [List.getElem?_map, List.getElem?_range h]
  rfl)
theorem e_just {k : Nat} (hk : k < 5) {is : List Nat} (h : ∀ i ∈ is, i < 2 ^ k) : (lotsT k).map (fun (a19 : (Tp Int)) => (((is.map (mk k)).countP fun z => dec (z = a19) : Nat) : Int)) = justL k is := by
  unfold lotsT justL
  rw [List.map_map]
  refine List.map_congr_left fun b hb => ?_
  rw [List.mem_range] at hb
  show (((is.map (mk k)).countP fun z => dec (z = mk k b) : Nat) : Int) = _
  rw [List.countP_map]
  congr 1
  refine List.countP_congr fun i hi => ?_
  show dec (mk k i = mk k b) = true ↔ _
  rw [dec_iff, decide_eq_true_eq, mk_inj hk (h i hi) hb]
theorem e_most {k : Nat} (hk : k < 5) {is : List Nat} (hl : is.length ≤ 1000) : mpM (fun (a22 : (Tp Int)) => gd ((is.map (mk k)).length < 16777216) <| bd (fmM (fun (a24 : (Tp Int)) => gd ((a24.l).length < 16777216) <| some ((((a24.l).map (fun (a26 : Int) => ((a22.l).contains a26)))).all id)) (fun (a24 : (Tp Int)) =>  some a24) (is.map (mk k))) fun v28 => some ((v28).length : Int)) (lotsT k) = some (mostL k is) := by
  rw [mpM_of (g := fun a22 : Tp Int => (((is.map (mk k)).filter fun a24 : Tp Int => (((a24.l).map (fun (a26 : Int) => ((a22.l).contains a26)))).all id).length : Int)) fun a ha => ?_]
  · unfold lotsT mostL
    rw [List.map_map]
    congr 1
    refine List.map_congr_left fun a ha => ?_
    show (((is.map (mk k)).filter fun a24 : Tp Int => (((a24.l).map (fun (a26 : Int) => ((cI (lotN k a)).contains a26)))).all id).length : Int) = _
    rw [List.filter_map, List.length_map]
    congr 3
    funext i
    exact sub_eq k a i
  · rw [gd_eq (by rw [List.length_map]; omega), fmM_ofG (g := fun a24 : Tp Int => (((a24.l).map (fun (a26 : Int) => ((a.l).contains a26)))).all id) (h := fun a24 => a24) (fun b hb => ?_) (fun b hb => rfl)]
    · rw [bd_eq, List.map_id']
    · rw [List.mem_map] at hb
      obtain ⟨i, _, e⟩ := hb
      subst e
      have := lot_len k i
      exact gd_eq (by show (cI (lotN k i)).length < _; omega)
theorem e_moved {k : Nat} (hk : k < 5) {o : List Int} (F : PiF k o) : mpM (fun (a34 : (Tp Int)) => gd ((a34.l).length < 16777216) <| bd (mpM (fun (a36 : Int) => bd (L2.atI o a36) fun v38 => some v38) a34.l) fun v39 => bd ((lotsT k).findIdx? fun z => dec (z = (Tp.mk (sortI v39)))) fun v40 => some ((v40 : Nat) : Int)) (lotsT k) = some ((List.range (2 ^ k)).map fun b => (piN o k b : Int)) := by
  have gen : ∀ bs : List Nat, (∀ b ∈ bs, b < 2 ^ k) → mpM (fun (a34 : (Tp Int)) => gd ((a34.l).length < 16777216) <| bd (mpM (fun (a36 : Int) => bd (L2.atI o a36) fun v38 => some v38) a34.l) fun v39 => bd ((lotsT k).findIdx? fun z => dec (z = (Tp.mk (sortI v39)))) fun v40 => some ((v40 : Nat) : Int)) (bs.map fun b => (⟨cI (lotN k b)⟩ : Tp Int)) = some (bs.map fun b => (piN o k b : Int)) := by
    intro bs
    induction bs with
    | nil => intro _; rfl
    | cons b bs ih =>
      intro h
      have ih := ih fun c hc => h c (List.mem_cons_of_mem _ hc)
      have hb := h b List.mem_cons_self
      have hll := lot_len k b
      show bd (gd ((cI (lotN k b)).length < 16777216) <| bd (mpM (fun (a36 : Int) => bd (L2.atI o a36) fun v38 => some v38) (cI (lotN k b))) fun v39 => bd ((lotsT k).findIdx? fun z => dec (z = (Tp.mk (sortI v39)))) fun v40 => some ((v40 : Nat) : Int)) _ = _
      have e1 : mpM (fun (a36 : Int) => bd (L2.atI o a36) fun v38 => some v38) (cI (lotN k b)) = some ((lotN k b).map fun t => o.getD t 0) := by
        rw [mpM_of (g := fun a : Int => o.getD a.toNat 0) fun a ha => ?_]
        · unfold cI
          rw [List.map_map]
          congr 1
        · unfold cI at ha
          rw [List.mem_map] at ha
          obtain ⟨t, ht, e⟩ := ha
          have htk : t < k := by
            unfold lotN at ht
            rw [List.mem_filter, List.mem_range] at ht
            exact ht.1
          rw [← e, at_nat (v := o.getD t 0) (by rw [List.getD_eq_getElem?_getD, List.getElem?_eq_getElem (by rw [F.len]; exact htk)]; rfl), bd_eq, Int.toNat_natCast]
      have e2 : ((lotsT k).findIdx? fun z => dec (z = (Tp.mk (sortI ((lotN k b).map fun t => o.getD t 0))))) = piO o k b := by
        unfold lotsT piO
        rw [List.findIdx?_map, List.findIdx?_map]
        congr 1
        funext a
        refine bool_ext ?_
        show dec ((⟨cI (lotN k a)⟩ : Tp Int) = _) = true ↔ decide (cI (lotN k a) = _) = true
        rw [dec_iff, decide_eq_true_eq]
        exact ⟨fun h => congrArg Tp.l h, fun h => by rw [h]⟩
      rw [gd_eq (by omega), e1, bd_eq, e2, (F.fnd b hb).1, bd_eq, bd_eq, ih]
      rfl
  exact gen (List.range (2 ^ k)) fun b hb => List.mem_range.mp hb
theorem gtm {xs : List Int} {x : Int} (h : x ∈ xs) : ∃ c, c < xs.length ∧ x = gt xs c := by
  obtain ⟨c, hc, e⟩ := List.mem_iff_getElem.mp h
  refine ⟨c, hc, ?_⟩
  unfold gt
  rw [List.getD_eq_getElem?_getD, List.getElem?_eq_getElem hc, ← e]
  rfl
theorem k_marks {g : Pot} (hb : bOk g.b) : Ok (t__law_marks_right g) fun _ => True := by
  unfold t__law_marks_right
  refine (k_draw hb (by omega) (by omega)).bd fun r1 h1 => ?_
  obtain ⟨k, ek, hk⟩ := nat_of h1.1 h1.2.1
  rw [ek]
  have hk5 : k < 5 := by omega
  have hle : (2 : Nat) ^ k ≤ 2 ^ 4 := Nat.pow_le_pow_right (by omega) (by omega)
  have hpos : 0 < (2 : Nat) ^ k := Nat.pow_pos (by omega)
  refine Ok.gd (ibd_nat (by omega)) (Ok.gd (by rw [rng1_len]; omega) ((k_mixed h1.2.2 (by rw [rng1_len]; omega)).bd fun r4 h4 => ?_))
  have F : PiF k r4.1 := pi_facts hk5 (by
    have z := h4.1
    rw [rng1_nat] at z
    exact z)
  refine Ok.bdE (r_doubled (by omega)) (Ok.gd (ibd_nat (by omega)) (Ok.gd (by rw [rng1_len]; omega) (Ok.bdE (r_lots (by omega)) ?_)))
  refine (k_draw h4.2 (by omega) (by omega)).bd fun r11 h11 => ?_
  obtain ⟨m, em, hm⟩ := nat_of h11.1 h11.2.1
  rw [em]
  refine Ok.gd (ibd_nat (by omega)) (Ok.gd (by rw [rng1_len]; omega) ?_)
  refine (mpS_inv (fun q => bOk q.b) (fun x : Tp Int => ∃ i, i < 2 ^ k ∧ x = mk k i) (fun a _ s hs => ?_) h11.2.2).bd fun r18 h18 => ?_
  · refine (k_draw hs (by omega) (by omega)).bd fun r16 h16 => ?_
    obtain ⟨i, ei, hi⟩ := nat_of h16.1 h16.2.1
    rw [ei]
    exact Ok.bdE (lots_at (by omega)) (Ok.ret ⟨⟨i, by omega, rfl⟩, h16.2.2⟩)
  obtain ⟨is, eis, his⟩ := marks_of h18.1.2
  have hil : is.length ≤ 20 := by
    have z := h18.1.1
    rw [eis, List.length_map, rng1_len] at z
    omega
  rw [eis, e_just hk5 his]
  have hjl : (justL k is).length = 2 ^ k := by
    unfold justL
    simp
  have hml : (mostL k is).length = 2 ^ k := by
    unfold mostL
    simp
  have hjB : ∀ x ∈ justL k is, x.natAbs ≤ 20 := fun x hx => by
    unfold justL at hx
    rw [List.mem_map] at hx
    obtain ⟨b, _, e⟩ := hx
    have := List.countP_le_length (p := fun i => decide (i = b)) (l := is)
    rw [← e]
    omega
  have hmB : ∀ x ∈ mostL k is, x.natAbs ≤ 20 := fun x hx => by
    unfold mostL at hx
    rw [List.mem_map] at hx
    obtain ⟨b, _, e⟩ := hx
    have := List.length_filter_le (fun i => subT k i b) is
    rw [← e]
    omega
  have jm := just_most (show k < 7 by omega) his
  have s1 : t_lots_summed (Sq.mk false (justL k is)) = some (mostL k is) := by
    rw [r_lotsSummed (show k ≤ 9 by omega) (q := ⟨false, justL k is⟩) hjl hjB (by decide)]
    exact congrArg some jm
  have s2 : t_lots_taken_back (Sq.mk false (mostL k is)) = some (justL k is) := by
    rw [r_lotsBack (show k ≤ 9 by omega) (q := ⟨false, mostL k is⟩) hml hmB (by decide)]
    show some (lsO (-1) k (mostL k is)) = _
    rw [← jm]
    exact congrArg some (lsO_back (.inl rfl) k _)
  obtain ⟨late, f1, f2, f3, f4⟩ := r_late (fun b hb => (F.fnd b hb).2) F.inj (justL k is) 0 (List.replicate (2 ^ k) 0) (by omega) (by simp)
  have hlB : ∀ x ∈ late, x.natAbs ≤ 20 := fun x hx => by
    obtain ⟨c, hc, e⟩ := gtm hx
    rw [e]
    by_cases hz : ∃ b, b < 2 ^ k ∧ piN r4.1 k b = c
    · obtain ⟨b, hb2, eb⟩ := hz
      rw [← eb, f3 b (by omega) hb2, Nat.sub_zero]
      exact gt_absB hjB b
    · rw [f4 c fun b _ hb2 eb => hz ⟨b, hb2, eb⟩]
      exact gt_absB (fun y hy => by rw [List.eq_of_mem_replicate hy]; decide) c
  have s3 := r_lotsSummed (show k ≤ 9 by omega) (q := ⟨false, late⟩) f2 hlB (by decide)
  have e5 : mpM (fun (a55 : Int) => bd (L2.atI ((List.range (2 ^ k)).map fun b => (piN r4.1 k b : Int)) a55) fun v57 => bd (L2.atI (lsO 1 k late) v57) fun v58 => some v58) (rng1 ((2 ^ k : Nat) : Int)) = some (mostL k is) := by
    rw [mpM_rng (g := gt (mostL k is)) fun i hi => ?_]
    · rw [← hml, ← list_range]
    · rw [at_nat (show ((List.range (2 ^ k)).map fun b => (piN r4.1 k b : Int))[i]? = some (piN r4.1 k i : Int) by rw [List.getElem?_map, List.getElem?_range hi]; rfl), bd_eq, at_nat (gt_some (by rw [lsO_len, f2]; exact (F.fnd i hi).2)), bd_eq, moved_sum F hjl f2 (fun b hb => by rw [f3 b (by omega) hb, Nat.sub_zero]) (by omega) hi, jm]
  have hlt := lotsT_len k
  refine Ok.gd (by omega) (Ok.lt (Ok.gd (by omega) (Ok.bdE (e_most hk5 (by omega)) (Ok.bdE s1 (Ok.gd rfl (Ok.bdE s2 (Ok.gd rfl (Ok.gd (by omega) (Ok.bdE (e_moved hk5 F) (Ok.gd ⟨by omega, by omega, by rw [Int.toNat_natCast, List.length_singleton]; omega⟩ (Ok.lt ?_)))))))))))
  rw [rep0]
  exact Ok.bdE f1 (Ok.bdE s3 (Ok.gd (ibd_nat (by omega)) (Ok.gd (by rw [rng1_len]; omega) (Ok.bdE e5 (Ok.gd rfl (Ok.ret trivial))))))
theorem k_pot {s : Scr} {k : Nat} (hk : k ≤ 5) (hs : s.l.length ≤ 63) : Ok (t__law_pot s (k : Int)) fun p => bOk p.b := by
  unfold t__law_pot
  have hc : Ok (if (decide ((k : Int) < (s.l.length : Int))) = true then bd (L2.atI s.l (k : Int)) fun v2 => some (iabs v2) else gd (mulOk (2939:Int) (k : Int) = true) <| some ((((2939:Int) * (k : Int)) + (2179:Int)) + (((cutD s.l none (some (1:Int)))).sum % (1000003:Int)))) fun _ => True := by
    by_cases h : k < s.l.length
    · rw [if_pos (by rw [decide_eq_true_eq]; omega)]
      exact Ok.bdE (at_nat (List.getElem?_eq_getElem h)) (Ok.ret trivial)
    · rw [if_neg (by rw [decide_eq_true_eq]; omega)]
      exact Ok.gd (Pd.mulOk_of 64 64 (by decide) (by omega) (by omega)) (Ok.ret trivial)
  refine hc.bd fun v _ => Ok.gd (Pd.mulOk_of 64 64 (by omega) (by decide) (by omega)) (Ok.gd (Pd.mulOk_of 64 64 (by decide) (by omega) (by omega)) (Ok.ret ?_))
  unfold bOk
  dsimp only
  omega
theorem law_ok (ns : List Int) (h : ns.length ≤ 63) : t_law ⟨ns⟩ = some Yes.yes := by
  refine Ok.eq ?_
  unfold t_law
  exact (k_pot (k := 0) (by omega) h).bd fun p hp => (k_pot (k := 1) (by omega) h).bd fun q hq => (k_small (most := 4) hp (by omega)).bd fun r3 h3 => (k_small (most := 6) hq (by omega)).bd fun r4 h4 => (k_marks h3).bd fun _ _ => (k_great h4).bd fun _ _ => Ok.ret rfl
theorem run_law (ns : List Int) (h : ns.length ≤ 63) : RV (fun q : Scr × Unit => t_law q.1) [scrD ns] = some (.va (.bool true), []) := RV_at (f := fun q : Scr × Unit => t_law q.1) (t := ((⟨ns⟩ : Scr), ())) (law_ok ns h)
end PdK68

namespace PdK68
open PySem PySem.Spec PyProof.Rows L2 Pd
def topS (i : Nat) : Stmt := PySem.Challenge.pw_twowaycounts_k68_whole_sums_over_lots.main.body.getD i (.Pass ⟨0, 0, 0, 0⟩)
def glb : List (Str × PyData) := [(("MOST_LOTS" : Str), (.int (512)))]
/-! 0: _law_pot(script, k) names [script, k, cell] -/
def st0 : Stmt := topS 13
def N0 : List Str := [("script" : Str), ("k" : Str), ("cell" : Str)]
def F0 : FnI := ⟨("_law_pot" : Str), [("script" : Str), ("k" : Str)], [(2, [], [0, 1])]⟩
def C0 : CC := ⟨N0, defScope st0, [], [], glb, []⟩
def ir0 : Sms := (.cons (.asg 2 (.ite (.cmp .lt (.var 1) (.bi .len (.cons (.var 0) .nil))) (.bi .abs (.cons (.idx (.var 0) (.var 1)) .nil)) (.bin .add (.bin .add (.bin .mul (.cst (.int (2939))) (.var 1)) (.cst (.int (2179)))) (.bin .md (.bi .int (.cons (.bi .sum (.cons (.slc (.var 0) .no (.yes (.cst (.int (1))))) .nil)) .nil)) (.cst (.int (1000003)))))) false) (.cons (.ret (.lst (.cons (.bi .max (.cons (.cst (.int (0))) (.cons (.bin .sub (.var 2) (.bin .pow (.cst (.int (10))) (.cst (.int (18))))) .nil))) (.cons (.bin .add (.bin .md (.bi .int (.cons (.bin .add (.bin .add (.bin .mul (.bin .md (.bi .int (.cons (.var 2) .nil)) (.cst (.int (2147483549)))) (.cst (.int (40253)))) (.bin .mul (.cst (.int (9319))) (.var 1))) (.cst (.int (71)))) .nil)) (.cst (.int (2147483563)))) (.cst (.int (1)))) .nil)))) .nil))
theorem cs0 : cSs 60 C0 (defBody st0) = some ir0 := by kernel_rfl
theorem sc0 : FnScope N0 [("script" : Str), ("k" : Str)] (defScope st0) := ⟨rfl, rfl, rfl, by decide +kernel, rfl, by decide +kernel, by decide +kernel⟩
/-! 1: _law_draw(pot, size) names [pot, size, digit] -/
def st1 : Stmt := topS 14
def N1 : List Str := [("pot" : Str), ("size" : Str), ("digit" : Str)]
def F1 : FnI := ⟨("_law_draw" : Str), [("pot" : Str), ("size" : Str)], [(2, [], [0, 1])]⟩
def C1 : CC := ⟨N1, defScope st1, [], [F0], glb, []⟩
def ir1 : Sms := (.cons (.ite (.cmp .gt (.idx (.var 0) (.cst (.int (0)))) (.cst (.int (0)))) (.cons (.asgT (.tp (.cons (.sb 0 (.cst (.int (0)))) (.cons (.nm 2) .nil))) (.bi .divmod (.cons (.idx (.var 0) (.cst (.int (0)))) (.cons (.var 1) .nil)))) (.cons (.ret (.var 2)) .nil)) .nil) (.cons (.asgT (.sb 0 (.cst (.int (1)))) (.bin .md (.bi .int (.cons (.bin .add (.bin .mul (.idx (.var 0) (.cst (.int (1)))) (.cst (.int (40692)))) (.cst (.int (9319)))) .nil)) (.cst (.int (2147483587))))) (.cons (.ret (.bin .md (.bi .int (.cons (.bin .fdiv (.bin .md (.bi .int (.cons (.bin .mul (.idx (.var 0) (.cst (.int (1)))) (.idx (.var 0) (.cst (.int (1))))) .nil)) (.cst (.int (2147483549)))) (.cst (.int (43)))) .nil)) (.var 1))) .nil)))
theorem cs1 : cSs 60 C1 (defBody st1) = some ir1 := by kernel_rfl
theorem sc1 : FnScope N1 [("pot" : Str), ("size" : Str)] (defScope st1) := ⟨rfl, rfl, rfl, by decide +kernel, rfl, by decide +kernel, by decide +kernel⟩
/-! 2: _law_pick(pot, some) names [pot, some] -/
def st2 : Stmt := topS 15
def N2 : List Str := [("pot" : Str), ("some" : Str)]
def F2 : FnI := ⟨("_law_pick" : Str), [("pot" : Str), ("some" : Str)], [(2, [], [0, 1])]⟩
def C2 : CC := ⟨N2, defScope st2, [], [F0, F1], glb, []⟩
def ir2 : Sms := (.cons (.ret (.idx (.var 1) (.call 1 (.cons (.var 0) (.cons (.bi .len (.cons (.var 1) .nil)) .nil)) .nil [0, 1]))) .nil)
theorem cs2 : cSs 60 C2 (defBody st2) = some ir2 := by kernel_rfl
theorem sc2 : FnScope N2 [("pot" : Str), ("some" : Str)] (defScope st2) := ⟨rfl, rfl, rfl, by decide +kernel, rfl, by decide +kernel, by decide +kernel⟩
/-! 3: _law_numbers(pot, many) names [pot, many, size, turn] -/
def st3 : Stmt := topS 19
def N3 : List Str := [("pot" : Str), ("many" : Str), ("size" : Str), ("turn" : Str)]
def F3 : FnI := ⟨("_law_numbers" : Str), [("pot" : Str), ("many" : Str)], [(2, [], [0, 1])]⟩
def C3 : CC := ⟨N3, defScope st3, [("pot" : Str), ("size" : Str)], [F0, F1, F2], glb, []⟩
def ir3 : Sms := (.cons (.asg 2 (.call 2 (.cons (.var 0) (.cons (.lst (.cons (.cst (.int (2))) (.cons (.cst (.int (10))) (.cons (.bin .pow (.cst (.int (10))) (.cst (.int (6)))) (.cons (.bin .pow (.cst (.int (10))) (.cst (.int (25)))) .nil))))) .nil)) .nil [0, 1]) false) (.cons (.ret (.comp (.bin .sub (.call 1 (.cons (.var 0) (.cons (.bin .mul (.cst (.int (2))) (.var 2)) .nil)) .nil [0, 1]) (.var 2)) (.nm 3) (.rng (.cons (.var 1) .nil)) .nil [3])) .nil))
theorem cs3 : cSs 60 C3 (defBody st3) = some ir3 := by kernel_rfl
theorem sc3 : FnScope N3 [("pot" : Str), ("many" : Str)] (defScope st3) := ⟨rfl, rfl, rfl, by decide +kernel, rfl, by decide +kernel, by decide +kernel⟩
/-! 4: _law_doubled(things) names [things, found, turn] -/
def st4 : Stmt := topS 17
def N4 : List Str := [("things" : Str), ("found" : Str), ("turn" : Str)]
def F4 : FnI := ⟨("_law_doubled" : Str), [("things" : Str)], [(1, [], [0])]⟩
def C4 : CC := ⟨N4, defScope st4, [], [F0, F1, F2, F3], glb, []⟩
def ir4 : Sms := (.cons (.asg 1 (.cst (.int (1))) false) (.cons (.for_ (.nm 2) (.rng (.cons (.var 0) .nil)) (.cons (.asg 1 (.bin .mul (.cst (.int (2))) (.var 1)) false) .nil)) (.cons (.ret (.var 1)) .nil)))
theorem cs4 : cSs 60 C4 (defBody st4) = some ir4 := by kernel_rfl
theorem sc4 : FnScope N4 [("things" : Str)] (defScope st4) := ⟨rfl, rfl, rfl, by decide +kernel, rfl, by decide +kernel, by decide +kernel⟩
/-! 5: _law_lot(things, at) names [things, at, found, left, one] -/
def st5 : Stmt := topS 18
def N5 : List Str := [("things" : Str), ("at" : Str), ("found" : Str), ("left" : Str), ("one" : Str)]
def F5 : FnI := ⟨("_law_lot" : Str), [("things" : Str), ("at" : Str)], [(2, [], [0, 1])]⟩
def C5 : CC := ⟨N5, defScope st5, [], [F0, F1, F2, F3, F4], glb, []⟩
def ir5 : Sms := (.cons (.par [2, 3] (.cons (.lst .nil) (.cons (.var 1) .nil))) (.cons (.for_ (.nm 4) (.rng (.cons (.var 0) .nil)) (.cons (.exp (.mut .extend 2 (.cons (.ite (.cmp .eq (.bin .md (.bi .int (.cons (.var 3) .nil)) (.cst (.int (2)))) (.cst (.int (1)))) (.lst (.cons (.var 4) .nil)) (.lst .nil)) .nil))) (.cons (.asg 3 (.bin .fdiv (.var 3) (.cst (.int (2)))) false) .nil))) (.cons (.ret (.bi .tuple (.cons (.var 2) .nil))) .nil)))
theorem cs5 : cSs 60 C5 (defBody st5) = some ir5 := by kernel_rfl
theorem sc5 : FnScope N5 [("things" : Str), ("at" : Str)] (defScope st5) := ⟨rfl, rfl, rfl, by decide +kernel, rfl, by decide +kernel, by decide +kernel⟩
/-! 6: is_list(value) names [value] -/
def st6 : Stmt := topS 2
def N6 : List Str := [("value" : Str)]
def F6 : FnI := ⟨("is_list" : Str), [("value" : Str)], [(1, [], [0])]⟩
def C6 : CC := ⟨N6, defScope st6, [], [F0, F1, F2, F3, F4, F5], glb, []⟩
def ir6 : Sms := (.cons (.ret (.isi [.list, .tuple] (.var 0))) .nil)
theorem cs6 : cSs 60 C6 (defBody st6) = some ir6 := by kernel_rfl
theorem sc6 : FnScope N6 [("value" : Str)] (defScope st6) := ⟨rfl, rfl, rfl, by decide +kernel, rfl, by decide +kernel, by decide +kernel⟩
/-! 7: is_integer(value) names [value] -/
def st7 : Stmt := topS 1
def N7 : List Str := [("value" : Str)]
def F7 : FnI := ⟨("is_integer" : Str), [("value" : Str)], [(1, [], [0])]⟩
def C7 : CC := ⟨N7, defScope st7, [], [F0, F1, F2, F3, F4, F5, F6], glb, []⟩
def ir7 : Sms := (.cons (.ret (.and_ (.isi [.int] (.var 0)) (.not_ (.isi [.bool] (.var 0))))) .nil)
theorem cs7 : cSs 60 C7 (defBody st7) = some ir7 := by kernel_rfl
theorem sc7 : FnScope N7 [("value" : Str)] (defScope st7) := ⟨rfl, rfl, rfl, by decide +kernel, rfl, by decide +kernel, by decide +kernel⟩
/-! 8: want_lot_numbers(numbers) names [numbers, size, one] -/
def st8 : Stmt := topS 8
def N8 : List Str := [("numbers" : Str), ("size" : Str), ("one" : Str)]
def F8 : FnI := ⟨("want_lot_numbers" : Str), [("numbers" : Str)], [(1, [], [0])]⟩
def C8 : CC := ⟨N8, defScope st8, [], [F0, F1, F2, F3, F4, F5, F6, F7], glb, []⟩
def ir8 : Sms := (.cons (.ite (.or_ (.not_ (.call 6 (.cons (.var 0) .nil) .nil [0])) (.not_ (.bi .all (.cons (.comp (.call 7 (.cons (.var 2) .nil) .nil [0]) (.nm 2) (.ex (.var 0)) .nil [2]) .nil)))) (.cons .stop .nil) .nil) (.cons (.asg 1 (.cst (.int (1))) false) (.cons (.whl (.and_ (.cmp .lt (.var 1) (.bi .len (.cons (.var 0) .nil))) (.cmp .lt (.var 1) (.cst (.int (512))))) (.cons (.asg 1 (.bin .mul (.cst (.int (2))) (.var 1)) false) .nil)) (.cons (.ite (.cmp .ne (.var 1) (.bi .len (.cons (.var 0) .nil))) (.cons .stop .nil) .nil) .nil))))
theorem cs8 : cSs 60 C8 (defBody st8) = some ir8 := by kernel_rfl
theorem sc8 : FnScope N8 [("numbers" : Str)] (defScope st8) := ⟨rfl, rfl, rfl, by decide +kernel, rfl, by decide +kernel, by decide +kernel⟩
/-! 9: over_lots(numbers, by) names [numbers, by, found, step, at, one] -/
def st9 : Stmt := topS 9
def N9 : List Str := [("numbers" : Str), ("by" : Str), ("found" : Str), ("step" : Str), ("at" : Str), ("one" : Str)]
def F9 : FnI := ⟨("over_lots" : Str), [("numbers" : Str), ("by" : Str)], [(2, [], [0, 1])]⟩
def C9 : CC := ⟨N9, defScope st9, [("by" : Str), ("found" : Str), ("step" : Str)], [F0, F1, F2, F3, F4, F5, F6, F7, F8], glb, []⟩
def ir9 : Sms := (.cons (.par [2, 3] (.cons (.bi .list (.cons (.var 0) .nil)) (.cons (.cst (.int (1))) .nil))) (.cons (.whl (.cmp .lt (.var 3) (.bi .len (.cons (.var 2) .nil))) (.cons (.asg 2 (.comp (.bin .add (.var 5) (.ite (.cmp .eq (.bin .md (.bin .fdiv (.var 4) (.var 3)) (.cst (.int (2)))) (.cst (.int (1)))) (.bin .mul (.var 1) (.idx (.var 2) (.bin .sub (.var 4) (.var 3)))) (.cst (.int (0))))) (.tp (.cons (.nm 4) (.cons (.nm 5) .nil))) (.enum (.var 2)) .nil [4, 5]) false) (.cons (.asg 3 (.bin .mul (.cst (.int (2))) (.var 3)) false) .nil))) (.cons (.ret (.var 2)) .nil)))
theorem cs9 : cSs 60 C9 (defBody st9) = some ir9 := by kernel_rfl
theorem sc9 : FnScope N9 [("numbers" : Str), ("by" : Str)] (defScope st9) := ⟨rfl, rfl, rfl, by decide +kernel, rfl, by decide +kernel, by decide +kernel⟩
/-! 10: lots_summed(numbers) names [numbers] -/
def st10 : Stmt := topS 10
def N10 : List Str := [("numbers" : Str)]
def F10 : FnI := ⟨("lots_summed" : Str), [("numbers" : Str)], [(1, [], [0]), (0, [("numbers" : Str)], [0])]⟩
def C10 : CC := ⟨N10, defScope st10, [], [F0, F1, F2, F3, F4, F5, F6, F7, F8, F9], glb, []⟩
def ir10 : Sms := (.cons (.exp (.call 8 (.cons (.var 0) .nil) .nil [0])) (.cons (.ret (.call 9 (.cons (.var 0) (.cons (.cst (.int (1))) .nil)) .nil [0, 1])) .nil))
theorem cs10 : cSs 60 C10 (defBody st10) = some ir10 := by kernel_rfl
theorem sc10 : FnScope N10 [("numbers" : Str)] (defScope st10) := ⟨rfl, rfl, rfl, by decide +kernel, rfl, by decide +kernel, by decide +kernel⟩
/-! 11: lots_taken_back(numbers) names [numbers] -/
def st11 : Stmt := topS 11
def N11 : List Str := [("numbers" : Str)]
def F11 : FnI := ⟨("lots_taken_back" : Str), [("numbers" : Str)], [(1, [], [0]), (0, [("numbers" : Str)], [0])]⟩
def C11 : CC := ⟨N11, defScope st11, [], [F0, F1, F2, F3, F4, F5, F6, F7, F8, F9, F10], glb, []⟩
def ir11 : Sms := (.cons (.exp (.call 8 (.cons (.var 0) .nil) .nil [0])) (.cons (.ret (.call 9 (.cons (.var 0) (.cons (.neg (.cst (.int (1)))) .nil)) .nil [0, 1])) .nil))
theorem cs11 : cSs 60 C11 (defBody st11) = some ir11 := by kernel_rfl
theorem sc11 : FnScope N11 [("numbers" : Str)] (defScope st11) := ⟨rfl, rfl, rfl, by decide +kernel, rfl, by decide +kernel, by decide +kernel⟩
/-! 12: _law_small_right(pot, most) names [pot, most, things, numbers, at, shown, lots, due, lot, told, back, alone, signs, one, thing] -/
def st12 : Stmt := topS 20
def N12 : List Str := [("pot" : Str), ("most" : Str), ("things" : Str), ("numbers" : Str), ("at" : Str), ("shown" : Str), ("lots" : Str), ("due" : Str), ("lot" : Str), ("told" : Str), ("back" : Str), ("alone" : Str), ("signs" : Str), ("one" : Str), ("thing" : Str)]
def F12 : FnI := ⟨("_law_small_right" : Str), [("pot" : Str), ("most" : Str)], [(2, [], [0, 1])]⟩
def C12 : CC := ⟨N12, defScope st12, [("things" : Str), ("numbers" : Str), ("at" : Str), ("lots" : Str), ("lot" : Str)], [F0, F1, F2, F3, F4, F5, F6, F7, F8, F9, F10, F11], glb, []⟩
def ir12 : Sms := (.cons (.asg 2 (.call 1 (.cons (.var 0) (.cons (.bin .add (.var 1) (.cst (.int (1)))) .nil)) .nil [0, 1]) false) (.cons (.asg 3 (.call 3 (.cons (.var 0) (.cons (.call 4 (.cons (.var 2) .nil) .nil [0]) .nil)) .nil [0, 1]) false) (.cons (.par [5, 6] (.cons (.bi .repr (.cons (.var 3) .nil)) (.cons (.pre [2] (.comp (.call 5 (.cons (.var 2) (.cons (.var 4) .nil)) .nil [0, 1]) (.nm 4) (.rng (.cons (.bi .len (.cons (.var 3) .nil)) .nil)) .nil [4])) .nil))) (.cons (.asg 7 (.lst .nil) false) (.cons (.for_ (.nm 8) (.ex (.var 6)) (.cons (.exp (.mut .append 7 (.cons (.bi .sum (.cons (.comp (.idx (.var 3) (.var 4)) (.tp (.cons (.nm 4) (.cons (.nm 13) .nil))) (.enum (.var 6)) (.cons (.bi .all (.cons (.comp (.inn false (.var 14) (.var 8)) (.nm 14) (.ex (.var 13)) .nil [14]) .nil)) .nil) [4, 13]) .nil)) .nil))) .nil)) (.cons (.asg 9 (.call 10 (.cons (.var 3) .nil) .nil [0]) false) (.cons (.ite (.cmp .ne (.reprL (.cons (.var 9) (.cons (.call 10 .nil (.cons (.bi .tuple (.cons (.var 3) .nil)) .nil) [0]) .nil))) (.reprL (.cons (.var 7) (.cons (.var 7) .nil)))) (.cons (.ret (.cst (.bool false))) .nil) .nil) (.cons (.exp (.mut .append 9 (.cons (.cst .none) .nil))) (.cons (.asg 10 (.call 11 (.cons (.var 7) .nil) .nil [0]) false) (.cons (.ite (.cmp .ne (.reprL (.cons (.var 10) (.cons (.call 11 .nil (.cons (.bi .tuple (.cons (.var 7) .nil)) .nil) [0]) .nil))) (.reprL (.cons (.var 3) (.cons (.var 3) .nil)))) (.cons (.ret (.cst (.bool false))) .nil) .nil) (.cons (.exp (.mut .append 10 (.cons (.cst .none) .nil))) (.cons (.ite (.cmp .ne (.bi .repr (.cons (.call 11 (.cons (.bi .list (.cons (.var 7) .nil)) .nil) .nil [0]) .nil)) (.bi .repr (.cons (.var 3) .nil))) (.cons (.ret (.cst (.bool false))) .nil) .nil) (.cons (.asg 4 (.call 1 (.cons (.var 0) (.cons (.bi .len (.cons (.var 3) .nil)) .nil)) .nil [0, 1]) false) (.cons (.asg 11 (.comp (.ite (.cmp .eq (.var 13) (.var 4)) (.cst (.int (1))) (.cst (.int (0)))) (.nm 13) (.rng (.cons (.bi .len (.cons (.var 3) .nil)) .nil)) .nil [13]) false) (.cons (.asg 12 (.comp (.ite (.bi .all (.cons (.comp (.inn false (.var 14) (.var 8)) (.nm 14) (.ex (.idx (.var 6) (.var 4))) .nil [14]) .nil)) (.ite (.cmp .eq (.bin .md (.bi .int (.cons (.bin .sub (.bi .len (.cons (.var 8) .nil)) (.bi .len (.cons (.idx (.var 6) (.var 4)) .nil))) .nil)) (.cst (.int (2)))) (.cst (.int (0)))) (.cst (.int (1))) (.neg (.cst (.int (1))))) (.cst (.int (0)))) (.nm 8) (.ex (.var 6)) .nil [8]) false) (.cons (.ret (.and_ (.cmp .eq (.call 11 (.cons (.var 11) .nil) .nil [0]) (.var 12)) (.and_ (.cmp .eq (.call 10 (.cons (.var 12) .nil) .nil [0]) (.var 11)) (.cmp .eq (.bi .repr (.cons (.var 3) .nil)) (.var 5))))) .nil))))))))))))))))
theorem cs12 : cSs 60 C12 (defBody st12) = some ir12 := by kernel_rfl
theorem sc12 : FnScope N12 [("pot" : Str), ("most" : Str)] (defScope st12) := ⟨rfl, rfl, rfl, by decide +kernel, rfl, by decide +kernel, by decide +kernel⟩
/-! 13: _law_mixed(pot, some) names [pot, some, left, found] -/
def st13 : Stmt := topS 16
def N13 : List Str := [("pot" : Str), ("some" : Str), ("left" : Str), ("found" : Str)]
def F13 : FnI := ⟨("_law_mixed" : Str), [("pot" : Str), ("some" : Str)], [(2, [], [0, 1])]⟩
def C13 : CC := ⟨N13, defScope st13, [], [F0, F1, F2, F3, F4, F5, F6, F7, F8, F9, F10, F11, F12], glb, []⟩
def ir13 : Sms := (.cons (.par [2, 3] (.cons (.bi .list (.cons (.var 1) .nil)) (.cons (.lst .nil) .nil))) (.cons (.whl (.cmp .ne (.var 2) (.lst .nil)) (.cons (.exp (.mut .append 3 (.cons (.mut .pop 2 (.cons (.call 1 (.cons (.var 0) (.cons (.bi .len (.cons (.var 2) .nil)) .nil)) .nil [0, 1]) .nil)) .nil))) .nil)) (.cons (.ret (.var 3)) .nil)))
theorem cs13 : cSs 60 C13 (defBody st13) = some ir13 := by kernel_rfl
theorem sc13 : FnScope N13 [("pot" : Str), ("some" : Str)] (defScope st13) := ⟨rfl, rfl, rfl, by decide +kernel, rfl, by decide +kernel, by decide +kernel⟩
/-! 14: _law_marks_right(pot) names [pot, things, order, many, at, lots, marked, just, one, most, moved, late, told, turn, lot, mark, thing] -/
def st14 : Stmt := topS 21
def N14 : List Str := [("pot" : Str), ("things" : Str), ("order" : Str), ("many" : Str), ("at" : Str), ("lots" : Str), ("marked" : Str), ("just" : Str), ("one" : Str), ("most" : Str), ("moved" : Str), ("late" : Str), ("told" : Str), ("turn" : Str), ("lot" : Str), ("mark" : Str), ("thing" : Str)]
def F14 : FnI := ⟨("_law_marks_right" : Str), [("pot" : Str)], [(1, [], [0])]⟩
def C14 : CC := ⟨N14, defScope st14, [("pot" : Str), ("things" : Str), ("order" : Str), ("many" : Str), ("lots" : Str), ("marked" : Str), ("moved" : Str), ("told" : Str)], [F0, F1, F2, F3, F4, F5, F6, F7, F8, F9, F10, F11, F12, F13], glb, []⟩
def ir14 : Sms := (.cons (.asg 1 (.call 1 (.cons (.var 0) (.cons (.cst (.int (5))) .nil)) .nil [0, 1]) false) (.cons (.par [2, 3] (.cons (.call 13 (.cons (.var 0) (.cons (.rngL false (.cons (.var 1) .nil)) .nil)) .nil [0, 1]) (.cons (.call 4 (.cons (.var 1) .nil) .nil [0]) .nil))) (.cons (.asg 5 (.pre [1] (.comp (.call 5 (.cons (.var 1) (.cons (.var 4) .nil)) .nil [0, 1]) (.nm 4) (.rng (.cons (.var 3) .nil)) .nil [4])) false) (.cons (.asg 6 (.pre [3] (.comp (.idx (.var 5) (.call 1 (.cons (.var 0) (.cons (.var 3) .nil)) .nil [0, 1])) (.nm 13) (.rng (.cons (.call 1 (.cons (.var 0) (.cons (.cst (.int (20))) .nil)) .nil [0, 1]) .nil)) .nil [13])) false) (.cons (.asg 7 (.comp (.mth .count (.var 6) (.var 14)) (.nm 14) (.ex (.var 5)) .nil [14]) false) (.cons (.asg 9 (.pre [6, 8] (.comp (.bi .len (.cons (.comp (.var 8) (.nm 8) (.ex (.var 6)) (.cons (.bi .all (.cons (.comp (.inn false (.var 15) (.var 14)) (.nm 15) (.ex (.var 8)) .nil [15]) .nil)) .nil) [8]) .nil)) (.nm 14) (.ex (.var 5)) .nil [14])) false) (.cons (.ite (.or_ (.cmp .ne (.call 10 (.cons (.bi .list (.cons (.var 7) .nil)) .nil) .nil [0]) (.var 9)) (.cmp .ne (.call 11 (.cons (.bi .list (.cons (.var 9) .nil)) .nil) .nil [0]) (.var 7))) (.cons (.ret (.cst (.bool false))) .nil) .nil) (.cons (.asg 10 (.comp (.mth .index (.var 5) (.bi .tuple (.cons (.bi .sorted (.cons (.comp (.idx (.var 2) (.var 16)) (.nm 16) (.ex (.var 14)) .nil [16]) .nil)) .nil))) (.nm 14) (.ex (.var 5)) .nil [14]) false) (.cons (.asg 11 (.bin .mul (.lst (.cons (.cst (.int (0))) .nil)) (.var 3)) false) (.cons (.for_ (.tp (.cons (.nm 4) (.cons (.nm 8) .nil))) (.enum (.var 7)) (.cons (.asgT (.sb 11 (.idx (.var 10) (.var 4))) (.var 8)) .nil)) (.cons (.asg 12 (.call 10 (.cons (.var 11) .nil) .nil [0]) false) (.cons (.ret (.cmp .eq (.comp (.idx (.var 12) (.idx (.var 10) (.var 4))) (.nm 4) (.rng (.cons (.var 3) .nil)) .nil [4]) (.var 9))) .nil))))))))))))
theorem cs14 : cSs 60 C14 (defBody st14) = some ir14 := by kernel_rfl
theorem sc14 : FnScope N14 [("pot" : Str)] (defScope st14) := ⟨rfl, rfl, rfl, by decide +kernel, rfl, by decide +kernel, by decide +kernel⟩
/-! 15: _law_great_right(pot) names [pot, numbers, told] -/
def st15 : Stmt := topS 22
def N15 : List Str := [("pot" : Str), ("numbers" : Str), ("told" : Str)]
def F15 : FnI := ⟨("_law_great_right" : Str), [("pot" : Str)], [(1, [], [0])]⟩
def C15 : CC := ⟨N15, defScope st15, [], [F0, F1, F2, F3, F4, F5, F6, F7, F8, F9, F10, F11, F12, F13, F14], glb, []⟩
def ir15 : Sms := (.cons (.asg 1 (.call 3 (.cons (.var 0) (.cons (.call 4 (.cons (.bin .add (.cst (.int (7))) (.call 1 (.cons (.var 0) (.cons (.cst (.int (3))) .nil)) .nil [0, 1])) .nil) .nil [0]) .nil)) .nil [0, 1]) false) (.cons (.asg 2 (.call 10 (.cons (.bi .list (.cons (.var 1) .nil)) .nil) .nil [0]) false) (.cons (.ret (.and_ (.cmp .eq (.idx (.var 2) (.neg (.cst (.int (1))))) (.bi .sum (.cons (.var 1) .nil))) (.and_ (.cmp .eq (.idx (.var 2) (.cst (.int (0)))) (.idx (.var 1) (.cst (.int (0))))) (.and_ (.cmp .eq (.call 11 (.cons (.var 2) .nil) .nil [0]) (.var 1)) (.cmp .eq (.call 10 (.cons (.call 11 (.cons (.bi .list (.cons (.var 1) .nil)) .nil) .nil [0]) .nil) .nil [0]) (.var 1)))))) .nil)))
theorem cs15 : cSs 60 C15 (defBody st15) = some ir15 := by kernel_rfl
theorem sc15 : FnScope N15 [("pot" : Str)] (defScope st15) := ⟨rfl, rfl, rfl, by decide +kernel, rfl, by decide +kernel, by decide +kernel⟩
/-! 16: law(script) names [script, pot, late] -/
def st16 : Stmt := topS 23
def N16 : List Str := [("script" : Str), ("pot" : Str), ("late" : Str)]
def F16 : FnI := ⟨("law" : Str), [("script" : Str)], []⟩
def C16 : CC := ⟨N16, defScope st16, [], [F0, F1, F2, F3, F4, F5, F6, F7, F8, F9, F10, F11, F12, F13, F14, F15], glb, []⟩
def ir16 : Sms := (.cons (.par [1, 2] (.cons (.call 0 (.cons (.var 0) (.cons (.cst (.int (0))) .nil)) .nil [0, 1]) (.cons (.call 0 (.cons (.var 0) (.cons (.cst (.int (1))) .nil)) .nil [0, 1]) .nil))) (.cons (.ret (.and_ (.call 12 (.cons (.var 1) (.cons (.cst (.int (4))) .nil)) .nil [0, 1]) (.and_ (.call 12 (.cons (.var 2) (.cons (.cst (.int (6))) .nil)) .nil [0, 1]) (.and_ (.call 14 (.cons (.var 1) .nil) .nil [0]) (.call 15 (.cons (.var 2) .nil) .nil [0]))))) .nil))
theorem cs16 : cSs 60 C16 (defBody st16) = some ir16 := by kernel_rfl
theorem sc16 : FnScope N16 [("script" : Str)] (defScope st16) := ⟨rfl, rfl, rfl, by decide +kernel, rfl, by decide +kernel, by decide +kernel⟩
end PdK68


namespace PdK68
open PySem PySem.Spec PyProof.Rows L2 Pd
noncomputable def sgs : List Sig := [⟨false, (RP (fun q : Scr × Int × Unit => t__law_pot q.1 q.2.1))⟩, ⟨true, (IV (fun q : Pot × Int × Unit => t__law_draw q.1 q.2.1))⟩, ⟨true, (IV (fun q : Pot × (List Int) × Unit => t__law_pick q.1 q.2.1))⟩, ⟨true, (IO_ (fun q : Pot × Int × Unit => t__law_numbers q.1 q.2.1))⟩, ⟨false, (RV (fun q : Int × Unit => t__law_doubled q.1))⟩, ⟨false, (RV (fun q : Int × Int × Unit => t__law_lot q.1 q.2.1))⟩, ⟨false, (RV (fun q : PyData × Unit => t_is_list q.1))⟩, ⟨false, (RV (fun q : PyData × Unit => t_is_integer q.1))⟩, ⟨false, (RV (fun q : (Sq Int) × Unit => t_want_lot_numbers q.1))⟩, ⟨false, (RO (fun q : (Sq Int) × Int × Unit => t_over_lots q.1 q.2.1))⟩, ⟨false, (RO (fun q : (Sq Int) × Unit => t_lots_summed q.1))⟩, ⟨false, (RO (fun q : (Sq Int) × Unit => t_lots_taken_back q.1))⟩, ⟨true, (IV (fun q : Pot × Int × Unit => t__law_small_right q.1 q.2.1))⟩, ⟨true, (IO_ (fun q : Pot × (List Int) × Unit => t__law_mixed q.1 q.2.1))⟩, ⟨true, (IV (fun q : Pot × Unit => t__law_marks_right q.1))⟩, ⟨true, (IV (fun q : Pot × Unit => t__law_great_right q.1))⟩, ⟨false, (RV (fun q : Scr × Unit => t_law q.1))⟩]
noncomputable def Γ : Tab := fun k => sgs[k]?
theorem gam0 : Γ 0 = some ⟨false, (RP (fun q : Scr × Int × Unit => t__law_pot q.1 q.2.1))⟩ := rfl
theorem gam1 : Γ 1 = some ⟨true, (IV (fun q : Pot × Int × Unit => t__law_draw q.1 q.2.1))⟩ := rfl
theorem gam2 : Γ 2 = some ⟨true, (IV (fun q : Pot × (List Int) × Unit => t__law_pick q.1 q.2.1))⟩ := rfl
theorem gam3 : Γ 3 = some ⟨true, (IO_ (fun q : Pot × Int × Unit => t__law_numbers q.1 q.2.1))⟩ := rfl
theorem gam4 : Γ 4 = some ⟨false, (RV (fun q : Int × Unit => t__law_doubled q.1))⟩ := rfl
theorem gam5 : Γ 5 = some ⟨false, (RV (fun q : Int × Int × Unit => t__law_lot q.1 q.2.1))⟩ := rfl
theorem gam6 : Γ 6 = some ⟨false, (RV (fun q : PyData × Unit => t_is_list q.1))⟩ := rfl
theorem gam7 : Γ 7 = some ⟨false, (RV (fun q : PyData × Unit => t_is_integer q.1))⟩ := rfl
theorem gam8 : Γ 8 = some ⟨false, (RV (fun q : (Sq Int) × Unit => t_want_lot_numbers q.1))⟩ := rfl
theorem gam9 : Γ 9 = some ⟨false, (RO (fun q : (Sq Int) × Int × Unit => t_over_lots q.1 q.2.1))⟩ := rfl
theorem gam10 : Γ 10 = some ⟨false, (RO (fun q : (Sq Int) × Unit => t_lots_summed q.1))⟩ := rfl
theorem gam11 : Γ 11 = some ⟨false, (RO (fun q : (Sq Int) × Unit => t_lots_taken_back q.1))⟩ := rfl
theorem gam12 : Γ 12 = some ⟨true, (IV (fun q : Pot × Int × Unit => t__law_small_right q.1 q.2.1))⟩ := rfl
theorem gam13 : Γ 13 = some ⟨true, (IO_ (fun q : Pot × (List Int) × Unit => t__law_mixed q.1 q.2.1))⟩ := rfl
theorem gam14 : Γ 14 = some ⟨true, (IV (fun q : Pot × Unit => t__law_marks_right q.1))⟩ := rfl
theorem gam15 : Γ 15 = some ⟨true, (IV (fun q : Pot × Unit => t__law_great_right q.1))⟩ := rfl
theorem gam16 : Γ 16 = some ⟨false, (RV (fun q : Scr × Unit => t_law q.1))⟩ := rfl
set_option maxHeartbeats 2000000 in
theorem do0 : Does (RP (fun q : Scr × Int × Unit => t__law_pot q.1 q.2.1)) Γ false 3 ir0 := RP_of (fun q r H => by
  obtain ⟨a_0, a_1, ⟨⟩⟩ := q
  replace H : t__law_pot a_0 a_1 = some r := H
  unfold t__law_pot at H
  refine f_run (env := [(.va (scrD a_0.l)), (.va (.int a_1)), .no]) rfl ?_
  obtain ⟨v1, hv1, H⟩ := bd_some H
  have pv1 : evE Γ (.ite (.cmp .lt (.var 1) (.bi .len (.cons (.var 0) .nil))) (.bi .abs (.cons (.idx (.var 0) (.var 1)) .nil)) (.bin .add (.bin .add (.bin .mul (.cst (.int (2939))) (.var 1)) (.cst (.int (2179)))) (.bin .md (.bi .int (.cons (.bi .sum (.cons (.slc (.var 0) .no (.yes (.cst (.int (1))))) .nil)) .nil)) (.cst (.int (1000003)))))) [(.va (scrD a_0.l)), (.va (.int a_1)), .no] = some (.va (.int v1), [(.va (scrD a_0.l)), (.va (.int a_1)), .no]) := by
    by_cases hc : (decide (a_1 < (a_0.l.length : Int))) = true
    · rw [if_pos hc] at hv1
      obtain ⟨v2, hv2, hv1⟩ := bd_some hv1
      obtain rfl := some_inj hv1
      exact (x_iteT (x_cmp (x_var rfl) (x_biV (ds := [(scrD a_0.l)]) (xs_cons (x_var rfl) xs_nil) rfl l_lenS) rfl rfl c_lt) hc (x_biV (ds := [(.int v2)]) (xs_cons (x_idx (x_var rfl) (x_var rfl) rfl rfl (i_scr hv2)) xs_nil) rfl l_abs))
    · rw [if_neg hc] at hv1
      obtain ⟨g3, hv1⟩ := gd_some hv1
      obtain rfl := some_inj hv1
      exact (x_iteF (x_cmp (x_var rfl) (x_biV (ds := [(scrD a_0.l)]) (xs_cons (x_var rfl) xs_nil) rfl l_lenS) rfl rfl c_lt) (bF hc) (x_binV (x_binV (x_binV x_cst (x_var rfl) rfl rfl (b_mul g3)) x_cst rfl rfl b_add) (x_binV (x_biV (ds := [(.int ((cutD a_0.l none (some (1:Int)))).sum)]) (xs_cons (x_biV (ds := [(.list (encL (cutD a_0.l none (some (1:Int)))))]) (xs_cons (x_slcO (x_var rfl) xo_no (xo_yes x_cst) rfl s_scr) xs_nil) rfl l_sum) xs_nil) rfl l_int) x_cst rfl rfl (b_mod (by decide))) rfl rfl b_add))
  refine ex_asgV (e2 := [(.va (scrD a_0.l)), (.va (.int a_1)), (.va (.int v1))]) pv1 rfl rfl ?_
  obtain ⟨g4, H⟩ := gd_some H
  obtain ⟨g5, H⟩ := gd_some H
  obtain rfl := some_inj H
  exact ⟨_, y_rt (y_retO (x_lst' (ds := [(.int (imax (0:Int) (v1 - (1000000000000000000:Int)))), (.int ((((((v1 % (2147483549:Int)) * (40253:Int)) + ((9319:Int) * a_1)) + (71:Int)) % (2147483563:Int)) + (1:Int)))]) (e2 := [(.va (scrD a_0.l)), (.va (.int a_1)), (.va (.int v1))]) (xs_cons (x_biV (ds := [(.int (0:Int)), (.int (v1 - (1000000000000000000:Int)))]) (xs_cons x_cst (xs_cons (x_binV (x_var rfl) (x_binV x_cst x_cst rfl rfl (b_powL (by decide) (by decide))) rfl rfl b_sub) xs_nil)) rfl l_max2) (xs_cons (x_binV (x_binV (x_biV (ds := [(.int ((((v1 % (2147483549:Int)) * (40253:Int)) + ((9319:Int) * a_1)) + (71:Int)))]) (xs_cons (x_binV (x_binV (x_binV (x_binV (x_biV (ds := [(.int v1)]) (xs_cons (x_var rfl) xs_nil) rfl l_int) x_cst rfl rfl (b_mod (by decide))) x_cst rfl rfl (b_mul g4)) (x_binV x_cst (x_var rfl) rfl rfl (b_mul g5)) rfl rfl b_add) x_cst rfl rfl b_add) xs_nil) rfl l_int) x_cst rfl rfl (b_mod (by decide))) x_cst rfl rfl b_add) xs_nil)) rfl rfl))⟩)
theorem do1 : Does (IV (fun q : Pot × Int × Unit => t__law_draw q.1 q.2.1)) Γ true 3 ir1 := does_draw
set_option maxHeartbeats 2000000 in
theorem do2 : Does (IV (fun q : Pot × (List Int) × Unit => t__law_pick q.1 q.2.1)) Γ true 2 ir2 := IV_of (fun q r H => by
  obtain ⟨a_0, a_1, ⟨⟩⟩ := q
  replace H : t__law_pick a_0 a_1 = some r := H
  unfold t__law_pick at H
  refine f_runI (env := [(.io (potL a_0)), (.va (.list (encL a_1)))]) rfl ?_
  obtain ⟨r1, hr1, H⟩ := bd_some H
  obtain ⟨v2, hv2, H⟩ := bd_some H
  obtain rfl := some_inj H
  exact ⟨_, y_rt (y_retV (x_idx (x_var rfl) (x_callSI (ds := [(.int ((a_1).length : Int))]) (e3 := [(.io (potL r1.2)), (.va (.list (encL a_1)))]) gam1 (xs_cons (x_varI rfl) (xs_cons (x_biV (ds := [(.list (encL a_1))]) (xs_cons (x_var rfl) xs_nil) rfl l_len) xs_nil)) rfl rfl rfl (IV_at (p := a_0) (t := (((a_1).length : Int), ())) hr1) rfl) rfl rfl (i_list hv2)))⟩)
set_option maxHeartbeats 2000000 in
theorem do3 : Does (IO_ (fun q : Pot × Int × Unit => t__law_numbers q.1 q.2.1)) Γ true 4 ir3 := IO_of (fun q r H => by
  obtain ⟨a_0, a_1, ⟨⟩⟩ := q
  replace H : t__law_numbers a_0 a_1 = some r := H
  unfold t__law_numbers at H
  refine f_runI (env := [(.io (potL a_0)), (.va (.int a_1)), .no, .no]) rfl ?_
  obtain ⟨r1, hr1, H⟩ := bd_some H
  refine ex_asgV (e2 := [(.io (potL r1.2)), (.va (.int a_1)), (.va (.int r1.1)), .no]) (x_callSI (ds := [(.list (encL [(2:Int), (10:Int), (1000000:Int), (10000000000000000000000000:Int)]))]) (e3 := [(.io (potL r1.2)), (.va (.int a_1)), .no, .no]) gam2 (xs_cons (x_varI rfl) (xs_cons (x_lst' (ds := [(.int (2:Int)), (.int (10:Int)), (.int (1000000:Int)), (.int (10000000000000000000000000:Int))]) (e2 := [(.io (potL a_0)), (.va (.int a_1)), .no, .no]) (xs_cons x_cst (xs_cons x_cst (xs_cons (x_binV x_cst x_cst rfl rfl (b_powL (by decide) (by decide))) (xs_cons (x_binV x_cst x_cst rfl rfl (b_powL (by decide) (by decide))) xs_nil)))) rfl rfl) xs_nil)) rfl rfl rfl (IV_at (p := a_0) (t := ([(2:Int), (10:Int), (1000000:Int), (10000000000000000000000000:Int)], ())) hr1) rfl) rfl rfl ?_
  obtain ⟨g2, H⟩ := gd_some H
  obtain ⟨g4, H⟩ := gd_some H
  obtain ⟨v8, hv8, H⟩ := bd_some H
  have cv8 : evE Γ (.comp (.bin .sub (.call 1 (.cons (.var 0) (.cons (.bin .mul (.cst (.int (2))) (.var 2)) .nil)) .nil [0, 1]) (.var 2)) (.nm 3) (.rng (.cons (.var 1) .nil)) .nil [3]) [(.io (potL r1.2)), (.va (.int a_1)), (.va (.int r1.1)), .no] = some (.ow (encL v8.1), [(.io (potL v8.2)), (.va (.int a_1)), (.va (.int r1.1)), .no]) := by
    refine x_compS (xr_rngL (ds := [(.int a_1)]) (xs_cons (x_var rfl) xs_nil) rfl (r_1 g2)) g4 hv8 (fun (s5 : Pot) => [(.io (potL s5)), (.va (.int a_1)), (.va (.int r1.1)), .no]) rfl (fun a3 s5 y hy => ?_) rfl
    obtain ⟨g6, hy⟩ := gd_some hy
    obtain ⟨r7, hr7, hy⟩ := bd_some hy
    obtain rfl := some_inj hy
    exact ⟨_, _, _, _, rfl, (x_binV (x_callSI (ds := [(.int ((2:Int) * r1.1))]) (e3 := [(.io (potL r7.2)), (.va (.int a_1)), (.va (.int r1.1)), (.va (.int a3))]) gam1 (xs_cons (x_varI rfl) (xs_cons (x_binV x_cst (x_var rfl) rfl rfl (b_mul g6)) xs_nil)) rfl rfl rfl (IV_at (p := s5) (t := (((2:Int) * r1.1), ())) hr7) rfl) (x_var rfl) rfl rfl b_sub), rfl, rfl⟩
  obtain rfl := some_inj H
  exact ⟨_, y_rt (y_retO cv8)⟩)
set_option maxHeartbeats 2000000 in
theorem do4 : Does (RV (fun q : Int × Unit => t__law_doubled q.1)) Γ false 3 ir4 := RV_of (fun q r H => by
  obtain ⟨a_0, ⟨⟩⟩ := q
  replace H : t__law_doubled a_0 = some r := H
  unfold t__law_doubled at H
  refine f_run (env := [(.va (.int a_0)), .no, .no]) rfl ?_
  refine ex_asgV (e2 := [(.va (.int a_0)), (.va (.int (1:Int))), .no]) x_cst rfl rfl ?_
  obtain ⟨g1, H⟩ := gd_some H
  obtain ⟨s8, hs8, H⟩ := bd_some H
  refine ex_for (Y := Option PyData) (e1 := [(.va (.int a_0)), (.va (.int (1:Int))), .no]) (xr_rngL (ds := [(.int a_0)]) (xs_cons (x_var rfl) xs_nil) rfl (r_1 g1)) hs8 (fun (x4 : Option PyData) (s3 : Int) => [(.va (.int a_0)), (.va (.int s3)), (jc x4)]) none rfl (fun a2 x4 s3 _ hb5 => ?_) (fun x4 => ?_)
  · refine ex_t (e1 := [(.va (.int a_0)), (.va (.int s3)), (.va (.int a2))]) rfl ?_
    obtain ⟨g6, hb5⟩ := gd_some hb5
    obtain ⟨w7, ew7, hb5⟩ := lt_some hb5
    refine ex_asgV (e2 := [(.va (.int a_0)), (.va (.int w7)), (.va (.int a2))]) (x_binV x_cst (x_var rfl) rfl rfl (b_mul g6)) (by subst ew7; rfl) rfl ?_
    obtain rfl := some_inj hb5
    exact ⟨(some (.int a2)), y_nil⟩
  refine ex_env (e1 := [(.va (.int a_0)), (.va (.int s8)), (jc x4)]) rfl ?_
  obtain rfl := some_inj H
  exact ⟨_, y_rt (y_retV (x_var rfl))⟩)
set_option maxHeartbeats 2000000 in
theorem do5 : Does (RV (fun q : Int × Int × Unit => t__law_lot q.1 q.2.1)) Γ false 5 ir5 := RV_of (fun q r H => by
  obtain ⟨a_0, a_1, ⟨⟩⟩ := q
  replace H : t__law_lot a_0 a_1 = some r := H
  unfold t__law_lot at H
  refine f_run (env := [(.va (.int a_0)), (.va (.int a_1)), .no, .no, .no]) rfl ?_
  refine ex_par (e4 := [(.va (.int a_0)), (.va (.int a_1)), (.ow (encL ([] : (List Int)))), (.va (.int a_1)), .no]) (xs_cons (x_lst' xs_nil rfl rfl) (xs_cons (x_var rfl) xs_nil)) rfl rfl rfl ?_
  obtain ⟨g1, H⟩ := gd_some H
  obtain ⟨s9, hs9, H⟩ := bd_some H
  refine ex_for (Y := Option PyData) (e1 := [(.va (.int a_0)), (.va (.int a_1)), (.ow (encL ([] : (List Int)))), (.va (.int a_1)), .no]) (xr_rngL (ds := [(.int a_0)]) (xs_cons (x_var rfl) xs_nil) rfl (r_1 g1)) hs9 (fun (x4 : Option PyData) (s3 : (List Int) × Int) => [(.va (.int a_0)), (.va (.int a_1)), (.ow (encL s3.1)), (.va (.int s3.2)), (jc x4)]) none rfl (fun a2 x4 s3 _ hb5 => ?_) (fun x4 => ?_)
  · refine ex_t (e1 := [(.va (.int a_0)), (.va (.int a_1)), (.ow (encL s3.1)), (.va (.int s3.2)), (.va (.int a2))]) rfl ?_
    obtain ⟨g6, hb5⟩ := gd_some hb5
    obtain ⟨w7, ew7, hb5⟩ := lt_some hb5
    refine ex_exp (e2 := [(.va (.int a_0)), (.va (.int a_1)), (.ow (encL w7)), (.va (.int s3.2)), (.va (.int a2))]) (x_mutO (ds := [(.list (encL (if (decide ((s3.2 % (2:Int)) = (1:Int))) = true then [a2] else [])))]) (dp := (encL s3.1)) (e3 := [(.va (.int a_0)), (.va (.int a_1)), (.ow (encL w7)), (.va (.int s3.2)), (.va (.int a2))]) rfl (xs_cons (x_itePO (ds := (encL (if (decide ((s3.2 % (2:Int)) = (1:Int))) = true then [a2] else []))) (x_cmp (x_binV (x_biV (ds := [(.int s3.2)]) (xs_cons (x_var rfl) xs_nil) rfl l_int) x_cst rfl rfl (b_mod (by decide))) x_cst rfl rfl c_eq) (x_lst' (ds := [(.int a2)]) (e2 := [(.va (.int a_0)), (.va (.int a_1)), (.ow (encL s3.1)), (.va (.int s3.2)), (.va (.int a2))]) (xs_cons (x_var rfl) xs_nil) rfl rfl) (x_lst' xs_nil rfl rfl) (fun h => by rw [if_pos h]; try rfl) (fun h => by rw [if_neg (by rw [h]; decide)]; try rfl)) xs_nil) rfl rfl (u_ext g6) (by subst ew7; rfl)) rfl ?_
    obtain ⟨w8, ew8, hb5⟩ := lt_some hb5
    refine ex_asgV (e2 := [(.va (.int a_0)), (.va (.int a_1)), (.ow (encL w7)), (.va (.int w8)), (.va (.int a2))]) (x_binV (x_var rfl) x_cst rfl rfl (b_div (by decide))) (by subst ew8; rfl) rfl ?_
    obtain rfl := some_inj hb5
    exact ⟨(some (.int a2)), y_nil⟩
  refine ex_env (e1 := [(.va (.int a_0)), (.va (.int a_1)), (.ow (encL s9.1)), (.va (.int s9.2)), (jc x4)]) rfl ?_
  obtain rfl := some_inj H
  exact ⟨_, y_rt (y_retV (x_biV (ds := [(.list (encL s9.1))]) (xs_cons (x_varS rfl) xs_nil) rfl l_tuple))⟩)
set_option maxHeartbeats 2000000 in
theorem do6 : Does (RV (fun q : PyData × Unit => t_is_list q.1)) Γ false 1 ir6 := RV_of (fun q r H => by
  obtain ⟨a_0, ⟨⟩⟩ := q
  replace H : t_is_list a_0 = some r := H
  unfold t_is_list at H
  refine f_run (env := [(.va a_0)]) rfl ?_
  obtain ⟨g1, H⟩ := gd_some H
  obtain rfl := some_inj H
  exact ⟨_, y_rt (y_retV (x_isi (x_var rfl) rfl (isi_ok g1 rfl)))⟩)
set_option maxHeartbeats 2000000 in
theorem do7 : Does (RV (fun q : PyData × Unit => t_is_integer q.1)) Γ false 1 ir7 := RV_of (fun q r H => by
  obtain ⟨a_0, ⟨⟩⟩ := q
  replace H : t_is_integer a_0 = some r := H
  unfold t_is_integer at H
  refine f_run (env := [(.va a_0)]) rfl ?_
  obtain ⟨g1, H⟩ := gd_some H
  obtain ⟨v2, hv2, H⟩ := bd_some H
  have pv2 : evE Γ (.and_ (.isi [.int] (.var 0)) (.not_ (.isi [.bool] (.var 0)))) [(.va a_0)] = some (.va (.bool v2), [(.va a_0)]) := by
    by_cases hc : ([.int].any (isTy a_0)) = true
    · rw [if_pos hc] at hv2
      obtain ⟨g3, hv2⟩ := gd_some hv2
      obtain rfl := some_inj hv2
      exact (x_andTb (x_isi (x_var rfl) rfl (isi_ok g1 rfl)) hc (x_not (x_isi (x_var rfl) rfl (isi_ok g3 rfl))))
    · rw [if_neg hc] at hv2
      obtain rfl := some_inj hv2
      exact (x_andFb (x_isi (x_var rfl) rfl (isi_ok g1 rfl)) (bF hc))
  obtain rfl := some_inj H
  exact ⟨_, y_rt (y_retV pv2)⟩)
set_option maxHeartbeats 2000000 in
theorem do8 : Does (RV (fun q : (Sq Int) × Unit => t_want_lot_numbers q.1)) Γ false 3 ir8 := RV_of (fun q r H => by
  obtain ⟨a_0, ⟨⟩⟩ := q
  replace H : t_want_lot_numbers a_0 = some r := H
  unfold t_want_lot_numbers at H
  refine f_runN (env := [(.va (enc a_0)), .no, .no]) rfl ?_
  obtain ⟨r1, hr1, H⟩ := bd_some H
  obtain ⟨g2, H⟩ := gd_some H
  obtain ⟨g4, H⟩ := gd_some H
  obtain ⟨v6, hv6, H⟩ := bd_some H
  have cv6 : evE Γ (.comp (.call 7 (.cons (.var 2) .nil) .nil [0]) (.nm 2) (.ex (.var 0)) .nil [2]) [(.va (enc a_0)), .no, .no] = some (.ow (encL v6), [(.va (enc a_0)), .no, .no]) := by
    refine x_compM (W := [(.va (enc a_0)), .no, .no]) (xr_exL (d := (enc a_0)) (e2 := [(.va (enc a_0)), .no, .no]) (xs := a_0.l) (x_var rfl) rfl t_sq) g4 hv6 rfl (fun a3 y hy => ?_) rfl
    obtain ⟨r5, hr5, hy⟩ := bd_some hy
    obtain rfl := some_inj hy
    exact ⟨_, _, _, _, rfl, (x_callV (ds := [(.int a3)]) (as := [(.int a3)]) (e3 := [(.va (enc a_0)), .no, (.va (.int a3))]) gam7 (xs_cons (x_var rfl) xs_nil) xs_nil rfl rfl (RV_at (t := (((.int a3) : PyData), ())) hr5)), rfl, rfl⟩
  obtain ⟨g7, H⟩ := gd_some H
  refine ex_ifF (e2 := [(.va (enc a_0)), .no, .no]) (x_orF (x_not (x_to (x_callV (ds := [(enc a_0)]) (as := [(enc a_0)]) (e3 := [(.va (enc a_0)), .no, .no]) gam6 (xs_cons (x_var rfl) xs_nil) xs_nil rfl rfl (RV_at (t := ((enc a_0), ())) hr1)) g2)) (x_not (x_to (x_biV (ds := [(.list (encL v6))]) (xs_cons cv6 xs_nil) rfl l_all) g7))) rfl rfl ?_
  refine ex_asgV (e2 := [(.va (enc a_0)), (.va (.int (1:Int))), .no]) x_cst rfl rfl ?_
  obtain ⟨s14, hs14, H⟩ := bd_some H
  refine ex_whl (Y := Unit) hs14 (fun (x9 : Unit) (s8 : Int) => [(.va (enc a_0)), (.va (.int s8)), .no]) () rfl (fun x9 s8 _ hc10 => ?_) (fun x9 s8 _ hb11 => ?_) (fun x9 => ?_)
  · show evE Γ _ [(.va (enc a_0)), (.va (.int s8)), .no] = some (_, [(.va (enc a_0)), (.va (.int s8)), .no])
    obtain rfl := some_inj hc10
    exact (x_andP (x_cmp (x_var rfl) (x_biV (ds := [(enc a_0)]) (xs_cons (x_var rfl) xs_nil) rfl l_lenQ) rfl rfl c_lt) (x_cmp (x_var rfl) x_cst rfl rfl c_lt))
  · refine ex_env (e1 := [(.va (enc a_0)), (.va (.int s8)), .no]) rfl ?_
    obtain ⟨g12, hb11⟩ := gd_some hb11
    obtain ⟨w13, ew13, hb11⟩ := lt_some hb11
    refine ex_asgV (e2 := [(.va (enc a_0)), (.va (.int w13)), .no]) (x_binV x_cst (x_var rfl) rfl rfl (b_mul g12)) (by subst ew13; rfl) rfl ?_
    obtain rfl := some_inj hb11
    exact ⟨(), y_nil⟩
  refine ex_env (e1 := [(.va (enc a_0)), (.va (.int s14)), .no]) rfl ?_
  obtain ⟨g15, H⟩ := gd_some H
  refine ex_ifF (e2 := [(.va (enc a_0)), (.va (.int s14)), .no]) (x_to (x_cmp (x_var rfl) (x_biV (ds := [(enc a_0)]) (xs_cons (x_var rfl) xs_nil) rfl l_lenQ) rfl rfl c_ne) (nd_F g15)) rfl rfl ?_
  obtain rfl := some_inj H
  exact ⟨_, y_nil⟩)
set_option maxHeartbeats 2000000 in
theorem do9 : Does (RO (fun q : (Sq Int) × Int × Unit => t_over_lots q.1 q.2.1)) Γ false 6 ir9 := RO_of (fun q r H => by
  obtain ⟨a_0, a_1, ⟨⟩⟩ := q
  replace H : t_over_lots a_0 a_1 = some r := H
  unfold t_over_lots at H
  refine f_run (env := [(.va (enc a_0)), (.va (.int a_1)), .no, .no, .no, .no]) rfl ?_
  refine ex_par (e4 := [(.va (enc a_0)), (.va (.int a_1)), (.ow (encL a_0.l)), (.va (.int (1:Int))), .no, .no]) (xs_cons (x_biO (ds := [(enc a_0)]) (xs_cons (x_var rfl) xs_nil) rfl l_listQ) (xs_cons x_cst xs_nil)) rfl rfl rfl ?_
  obtain ⟨s14, hs14, H⟩ := bd_some H
  refine ex_whl (Y := Unit) hs14 (fun (x2 : Unit) (s1 : (List Int) × Int) => [(.va (enc a_0)), (.va (.int a_1)), (.ow (encL s1.1)), (.va (.int s1.2)), .no, .no]) () rfl (fun x2 s1 _ hc3 => ?_) (fun x2 s1 _ hb4 => ?_) (fun x2 => ?_)
  · show evE Γ _ [(.va (enc a_0)), (.va (.int a_1)), (.ow (encL s1.1)), (.va (.int s1.2)), .no, .no] = some (_, [(.va (enc a_0)), (.va (.int a_1)), (.ow (encL s1.1)), (.va (.int s1.2)), .no, .no])
    obtain rfl := some_inj hc3
    exact (x_cmp (x_var rfl) (x_biV (ds := [(.list (encL s1.1))]) (xs_cons (x_varS rfl) xs_nil) rfl l_len) rfl rfl c_lt)
  · refine ex_env (e1 := [(.va (enc a_0)), (.va (.int a_1)), (.ow (encL s1.1)), (.va (.int s1.2)), .no, .no]) rfl ?_
    obtain ⟨g6, hb4⟩ := gd_some hb4
    obtain ⟨v11, hv11, hb4⟩ := bd_some hb4
    have cv11 : evE Γ (.comp (.bin .add (.var 5) (.ite (.cmp .eq (.bin .md (.bin .fdiv (.var 4) (.var 3)) (.cst (.int (2)))) (.cst (.int (1)))) (.bin .mul (.var 1) (.idx (.var 2) (.bin .sub (.var 4) (.var 3)))) (.cst (.int (0))))) (.tp (.cons (.nm 4) (.cons (.nm 5) .nil))) (.enum (.var 2)) .nil [4, 5]) [(.va (enc a_0)), (.va (.int a_1)), (.ow (encL s1.1)), (.va (.int s1.2)), .no, .no] = some (.ow (encL v11), [(.va (enc a_0)), (.va (.int a_1)), (.va (.list (encL s1.1))), (.va (.int s1.2)), .no, .no]) := by
      refine x_compM (W := [(.va (enc a_0)), (.va (.int a_1)), (.va (.list (encL s1.1))), (.va (.int s1.2)), .no, .no]) (xr_enumL (d := (.list (encL s1.1))) (e2 := [(.va (enc a_0)), (.va (.int a_1)), (.va (.list (encL s1.1))), (.va (.int s1.2)), .no, .no]) (xs := s1.1) (x_varS rfl) rfl t_list) g6 hv11 rfl (fun a5 y hy => ?_) rfl
      obtain ⟨g7, hy⟩ := gd_some hy
      obtain ⟨v8, hv8, hy⟩ := bd_some hy
      have pv8 : evE Γ (.ite (.cmp .eq (.bin .md (.bin .fdiv (.var 4) (.var 3)) (.cst (.int (2)))) (.cst (.int (1)))) (.bin .mul (.var 1) (.idx (.var 2) (.bin .sub (.var 4) (.var 3)))) (.cst (.int (0)))) [(.va (enc a_0)), (.va (.int a_1)), (.va (.list (encL s1.1))), (.va (.int s1.2)), (.va (.int a5.1)), (.va (.int a5.2))] = some (.va (.int v8), [(.va (enc a_0)), (.va (.int a_1)), (.va (.list (encL s1.1))), (.va (.int s1.2)), (.va (.int a5.1)), (.va (.int a5.2))]) := by
        by_cases hc : (decide (((a5.1 / s1.2) % (2:Int)) = (1:Int))) = true
        · rw [if_pos hc] at hv8
          obtain ⟨v9, hv9, hv8⟩ := bd_some hv8
          obtain ⟨g10, hv8⟩ := gd_some hv8
          obtain rfl := some_inj hv8
          exact (x_iteT (x_cmp (x_binV (x_binV (x_var rfl) (x_var rfl) rfl rfl (b_div g7)) x_cst rfl rfl (b_mod (by decide))) x_cst rfl rfl c_eq) hc (x_binV (x_var rfl) (x_idx (x_var rfl) (x_binV (x_var rfl) (x_var rfl) rfl rfl b_sub) rfl rfl (i_list hv9)) rfl rfl (b_mul g10)))
        · rw [if_neg hc] at hv8
          obtain rfl := some_inj hv8
          exact (x_iteF (x_cmp (x_binV (x_binV (x_var rfl) (x_var rfl) rfl rfl (b_div g7)) x_cst rfl rfl (b_mod (by decide))) x_cst rfl rfl c_eq) (bF hc) x_cst)
      obtain rfl := some_inj hy
      exact ⟨_, _, _, _, rfl, (x_binV (x_var rfl) pv8 rfl rfl b_add), rfl, rfl⟩
    refine ex_asgO (e2 := [(.va (enc a_0)), (.va (.int a_1)), (.ow (encL v11)), (.va (.int s1.2)), .no, .no]) cv11 rfl rfl ?_
    obtain ⟨g12, hb4⟩ := gd_some hb4
    obtain ⟨w13, ew13, hb4⟩ := lt_some hb4
    refine ex_asgV (e2 := [(.va (enc a_0)), (.va (.int a_1)), (.ow (encL v11)), (.va (.int w13)), .no, .no]) (x_binV x_cst (x_var rfl) rfl rfl (b_mul g12)) (by subst ew13; rfl) rfl ?_
    obtain rfl := some_inj hb4
    exact ⟨(), y_nil⟩
  refine ex_env (e1 := [(.va (enc a_0)), (.va (.int a_1)), (.ow (encL s14.1)), (.va (.int s14.2)), .no, .no]) rfl ?_
  obtain rfl := some_inj H
  exact ⟨_, y_rt (y_retS (x_varS rfl) rfl rfl)⟩)
set_option maxHeartbeats 2000000 in
theorem do10 : Does (RO (fun q : (Sq Int) × Unit => t_lots_summed q.1)) Γ false 1 ir10 := RO_of (fun q r H => by
  obtain ⟨a_0, ⟨⟩⟩ := q
  replace H : t_lots_summed a_0 = some r := H
  unfold t_lots_summed at H
  refine f_run (env := [(.va (enc a_0))]) rfl ?_
  obtain ⟨r1, hr1, H⟩ := bd_some H
  refine ex_exp (e2 := [(.va (enc a_0))]) (x_callV (ds := [(enc a_0)]) (as := [(enc a_0)]) (e3 := [(.va (enc a_0))]) gam8 (xs_cons (x_var rfl) xs_nil) xs_nil rfl rfl (RV_at (t := (a_0, ())) hr1)) rfl ?_
  obtain ⟨r2, hr2, H⟩ := bd_some H
  obtain rfl := some_inj H
  exact ⟨_, y_rt (y_retO (x_callL (ds := [(enc a_0), (.int (1:Int))]) (as := [(enc a_0), (.int (1:Int))]) (e3 := [(.va (enc a_0))]) gam9 (xs_cons (x_var rfl) (xs_cons x_cst xs_nil)) xs_nil rfl rfl (RO_at (t := (a_0, ((1:Int), ()))) hr2)))⟩)
set_option maxHeartbeats 2000000 in
theorem do11 : Does (RO (fun q : (Sq Int) × Unit => t_lots_taken_back q.1)) Γ false 1 ir11 := RO_of (fun q r H => by
  obtain ⟨a_0, ⟨⟩⟩ := q
  replace H : t_lots_taken_back a_0 = some r := H
  unfold t_lots_taken_back at H
  refine f_run (env := [(.va (enc a_0))]) rfl ?_
  obtain ⟨r1, hr1, H⟩ := bd_some H
  refine ex_exp (e2 := [(.va (enc a_0))]) (x_callV (ds := [(enc a_0)]) (as := [(enc a_0)]) (e3 := [(.va (enc a_0))]) gam8 (xs_cons (x_var rfl) xs_nil) xs_nil rfl rfl (RV_at (t := (a_0, ())) hr1)) rfl ?_
  obtain ⟨r2, hr2, H⟩ := bd_some H
  obtain rfl := some_inj H
  exact ⟨_, y_rt (y_retO (x_callL (ds := [(enc a_0), (.int (-1:Int))]) (as := [(enc a_0), (.int (-1:Int))]) (e3 := [(.va (enc a_0))]) gam9 (xs_cons (x_var rfl) (xs_cons (x_neg x_cst) xs_nil)) xs_nil rfl rfl (RO_at (t := (a_0, ((-1:Int), ()))) hr2)))⟩)
set_option maxHeartbeats 2000000 in
theorem do12 : Does (IV (fun q : Pot × Int × Unit => t__law_small_right q.1 q.2.1)) Γ true 15 ir12 := IV_of (fun q r H => by
  obtain ⟨a_0, a_1, ⟨⟩⟩ := q
  replace H : t__law_small_right a_0 a_1 = some r := H
  unfold t__law_small_right at H
  refine f_runI (env := [(.io (potL a_0)), (.va (.int a_1)), .no, .no, .no, .no, .no, .no, .no, .no, .no, .no, .no, .no, .no]) rfl ?_
  obtain ⟨r1, hr1, H⟩ := bd_some H
  refine ex_asgV (e2 := [(.io (potL r1.2)), (.va (.int a_1)), (.va (.int r1.1)), .no, .no, .no, .no, .no, .no, .no, .no, .no, .no, .no, .no]) (x_callSI (ds := [(.int (a_1 + (1:Int)))]) (e3 := [(.io (potL r1.2)), (.va (.int a_1)), .no, .no, .no, .no, .no, .no, .no, .no, .no, .no, .no, .no, .no]) gam1 (xs_cons (x_varI rfl) (xs_cons (x_binV (x_var rfl) x_cst rfl rfl b_add) xs_nil)) rfl rfl rfl (IV_at (p := a_0) (t := ((a_1 + (1:Int)), ())) hr1) rfl) rfl rfl ?_
  obtain ⟨r2, hr2, H⟩ := bd_some H
  obtain ⟨r3, hr3, H⟩ := bd_some H
  refine ex_asgO (e2 := [(.io (potL r3.2)), (.va (.int a_1)), (.va (.int r1.1)), (.ow (encL r3.1)), .no, .no, .no, .no, .no, .no, .no, .no, .no, .no, .no]) (x_callSL (ds := [(.int r2)]) (e3 := [(.io (potL r3.2)), (.va (.int a_1)), (.va (.int r1.1)), .no, .no, .no, .no, .no, .no, .no, .no, .no, .no, .no, .no]) gam3 (xs_cons (x_varI rfl) (xs_cons (x_callV (ds := [(.int r1.1)]) (as := [(.int r1.1)]) (e3 := [(.io (potL r1.2)), (.va (.int a_1)), (.va (.int r1.1)), .no, .no, .no, .no, .no, .no, .no, .no, .no, .no, .no, .no]) gam4 (xs_cons (x_var rfl) xs_nil) xs_nil rfl rfl (RV_at (t := (r1.1, ())) hr2)) xs_nil)) rfl rfl rfl (IO_at (p := r1.2) (t := (r2, ())) hr3) rfl) rfl rfl ?_
  obtain ⟨g4, H⟩ := gd_some H
  obtain ⟨g5, H⟩ := gd_some H
  obtain ⟨g7, H⟩ := gd_some H
  obtain ⟨v9, hv9, H⟩ := bd_some H
  have cv9 : evE Γ (.comp (.call 5 (.cons (.var 2) (.cons (.var 4) .nil)) .nil [0, 1]) (.nm 4) (.rng (.cons (.bi .len (.cons (.var 3) .nil)) .nil)) .nil [4]) [(.io (potL r3.2)), (.va (.int a_1)), (.va (.int r1.1)), (.ow (encL r3.1)), .no, .no, .no, .no, .no, .no, .no, .no, .no, .no, .no] = some (.ow (encL v9), [(.io (potL r3.2)), (.va (.int a_1)), (.va (.int r1.1)), (.ow (encL r3.1)), .no, .no, .no, .no, .no, .no, .no, .no, .no, .no, .no]) := by
    refine x_compM (W := [(.io (potL r3.2)), (.va (.int a_1)), (.va (.int r1.1)), (.ow (encL r3.1)), .no, .no, .no, .no, .no, .no, .no, .no, .no, .no, .no]) (xr_rngL (ds := [(.int ((r3.1).length : Int))]) (xs_cons (x_biV (ds := [(.list (encL r3.1))]) (xs_cons (x_varS rfl) xs_nil) rfl l_len) xs_nil) rfl (r_1 g5)) g7 hv9 rfl (fun a6 y hy => ?_) rfl
    obtain ⟨r8, hr8, hy⟩ := bd_some hy
    obtain rfl := some_inj hy
    exact ⟨_, _, _, _, rfl, (x_callV (ds := [(.int r1.1), (.int a6)]) (as := [(.int r1.1), (.int a6)]) (e3 := [(.io (potL r3.2)), (.va (.int a_1)), (.va (.int r1.1)), (.ow (encL r3.1)), (.va (.int a6)), .no, .no, .no, .no, .no, .no, .no, .no, .no, .no]) gam5 (xs_cons (x_var rfl) (xs_cons (x_var rfl) xs_nil)) xs_nil rfl rfl (RV_at (t := (r1.1, (a6, ()))) hr8)), rfl, rfl⟩
  obtain ⟨w10, ew10, H⟩ := lt_some H
  refine ex_par (e4 := [(.io (potL r3.2)), (.va (.int a_1)), (.va (.int r1.1)), (.ow (encL r3.1)), .no, (.va (.str w10)), (.ow (encL v9)), .no, .no, .no, .no, .no, .no, .no, .no]) (xs_cons (x_biV (ds := [(.list (encL r3.1))]) (xs_cons (x_varS rfl) xs_nil) rfl (l_repr g4)) (xs_cons (x_pre (e1 := [(.io (potL r3.2)), (.va (.int a_1)), (.va (.int r1.1)), (.ow (encL r3.1)), .no, .no, .no, .no, .no, .no, .no, .no, .no, .no, .no]) rfl cv9) xs_nil)) rfl rfl (by subst ew10; rfl) ?_
  refine ex_asgO (e2 := [(.io (potL r3.2)), (.va (.int a_1)), (.va (.int r1.1)), (.ow (encL r3.1)), .no, (.va (.str w10)), (.ow (encL v9)), (.ow (encL ([] : (List Int)))), .no, .no, .no, .no, .no, .no, .no]) (x_lst' xs_nil rfl rfl) rfl rfl ?_
  obtain ⟨s23, hs23, H⟩ := bd_some H
  refine ex_for (Y := Option PyData) (e1 := [(.io (potL r3.2)), (.va (.int a_1)), (.va (.int r1.1)), (.ow (encL r3.1)), .no, (.va (.str w10)), (.va (.list (encL v9))), (.ow (encL ([] : (List Int)))), .no, .no, .no, .no, .no, .no, .no]) (xr_exL (d := (.list (encL v9))) (e2 := [(.io (potL r3.2)), (.va (.int a_1)), (.va (.int r1.1)), (.ow (encL r3.1)), .no, (.va (.str w10)), (.va (.list (encL v9))), (.ow (encL ([] : (List Int)))), .no, .no, .no, .no, .no, .no, .no]) (xs := v9) (x_varS rfl) rfl t_list) hs23 (fun (x13 : Option PyData) (s12 : (List Int)) => [(.io (potL r3.2)), (.va (.int a_1)), (.va (.int r1.1)), (.ow (encL r3.1)), .no, (.va (.str w10)), (.va (.list (encL v9))), (.ow (encL s12)), (jc x13), .no, .no, .no, .no, .no, .no]) none rfl (fun a11 x13 s12 _ hb14 => ?_) (fun x13 => ?_)
  · refine ex_t (e1 := [(.io (potL r3.2)), (.va (.int a_1)), (.va (.int r1.1)), (.ow (encL r3.1)), .no, (.va (.str w10)), (.va (.list (encL v9))), (.ow (encL s12)), (.va (.tuple (encL a11.l))), .no, .no, .no, .no, .no, .no]) rfl ?_
    obtain ⟨g16, hb14⟩ := gd_some hb14
    obtain ⟨v20, hv20, hb14⟩ := bd_some hb14
    have cv20 : evE Γ (.comp (.idx (.var 3) (.var 4)) (.tp (.cons (.nm 4) (.cons (.nm 13) .nil))) (.enum (.var 6)) (.cons (.bi .all (.cons (.comp (.inn false (.var 14) (.var 8)) (.nm 14) (.ex (.var 13)) .nil [14]) .nil)) .nil) [4, 13]) [(.io (potL r3.2)), (.va (.int a_1)), (.va (.int r1.1)), (.ow (encL r3.1)), .no, (.va (.str w10)), (.va (.list (encL v9))), (.ow (encL s12)), (.va (.tuple (encL a11.l))), .no, .no, .no, .no, .no, .no] = some (.ow (encL v20), [(.io (potL r3.2)), (.va (.int a_1)), (.va (.int r1.1)), (.ow (encL r3.1)), .no, (.va (.str w10)), (.va (.list (encL v9))), (.ow (encL s12)), (.va (.tuple (encL a11.l))), .no, .no, .no, .no, .no, .no]) := by
      refine x_compF (W := [(.io (potL r3.2)), (.va (.int a_1)), (.va (.int r1.1)), (.ow (encL r3.1)), .no, (.va (.str w10)), (.va (.list (encL v9))), (.ow (encL s12)), (.va (.tuple (encL a11.l))), .no, .no, .no, .no, .no, .no]) (xr_enumL (d := (.list (encL v9))) (e2 := [(.io (potL r3.2)), (.va (.int a_1)), (.va (.int r1.1)), (.ow (encL r3.1)), .no, (.va (.str w10)), (.va (.list (encL v9))), (.ow (encL s12)), (.va (.tuple (encL a11.l))), .no, .no, .no, .no, .no, .no]) (xs := v9) (x_var rfl) rfl t_list) g16 hv20 rfl (fun a15 u hy => ?_) (fun a15 y hy => ?_) rfl
      · obtain ⟨g18, hy⟩ := gd_some hy
        obtain rfl := some_inj hy
        exact ⟨_, rfl, (x_biV (ds := [(.list (encL ((a15.2.l).map (fun (a17 : Int) => ((a11.l).contains a17)))))]) (xs_cons (x_compP (g := (fun (a17 : Int) => ((a11.l).contains a17))) (W := [(.io (potL r3.2)), (.va (.int a_1)), (.va (.int r1.1)), (.ow (encL r3.1)), (.va (.int a15.1)), (.va (.str w10)), (.va (.list (encL v9))), (.ow (encL s12)), (.va (.tuple (encL a11.l))), .no, .no, .no, .no, (.va (.tuple (encL a15.2.l))), .no]) (e2 := [(.io (potL r3.2)), (.va (.int a_1)), (.va (.int r1.1)), (.ow (encL r3.1)), (.va (.int a15.1)), (.va (.str w10)), (.va (.list (encL v9))), (.ow (encL s12)), (.va (.tuple (encL a11.l))), .no, .no, .no, .no, (.va (.tuple (encL a15.2.l))), .no]) (xr_exL (d := (.tuple (encL a15.2.l))) (e2 := [(.io (potL r3.2)), (.va (.int a_1)), (.va (.int r1.1)), (.ow (encL r3.1)), (.va (.int a15.1)), (.va (.str w10)), (.va (.list (encL v9))), (.ow (encL s12)), (.va (.tuple (encL a11.l))), .no, .no, .no, .no, (.va (.tuple (encL a15.2.l))), .no]) (xs := a15.2.l) (x_var rfl) rfl t_tup) g18 rfl (fun a17 => ⟨_, _, _, _, rfl, (x_inn (x_var rfl) (x_var rfl) rfl rfl n_inT), rfl, rfl⟩) rfl) xs_nil) rfl l_all), rfl⟩
      · obtain ⟨v19, hv19, hy⟩ := bd_some hy
        obtain rfl := some_inj hy
        exact ⟨_, _, _, _, rfl, (x_idx (x_varS rfl) (x_var rfl) rfl rfl (i_list hv19)), rfl, rfl⟩
    obtain ⟨g21, hb14⟩ := gd_some hb14
    obtain ⟨w22, ew22, hb14⟩ := lt_some hb14
    refine ex_exp (e2 := [(.io (potL r3.2)), (.va (.int a_1)), (.va (.int r1.1)), (.ow (encL r3.1)), .no, (.va (.str w10)), (.va (.list (encL v9))), (.ow (encL w22)), (.va (.tuple (encL a11.l))), .no, .no, .no, .no, .no, .no]) (x_mutO (ds := [(.int (v20).sum)]) (dp := (encL s12)) (e3 := [(.io (potL r3.2)), (.va (.int a_1)), (.va (.int r1.1)), (.ow (encL r3.1)), .no, (.va (.str w10)), (.va (.list (encL v9))), (.ow (encL w22)), (.va (.tuple (encL a11.l))), .no, .no, .no, .no, .no, .no]) rfl (xs_cons (x_biV (ds := [(.list (encL v20))]) (xs_cons cv20 xs_nil) rfl l_sum) xs_nil) rfl rfl (u_app g21) (by subst ew22; rfl)) rfl ?_
    obtain rfl := some_inj hb14
    exact ⟨(some (.tuple (encL a11.l))), y_nil⟩
  refine ex_env (e1 := [(.io (potL r3.2)), (.va (.int a_1)), (.va (.int r1.1)), (.ow (encL r3.1)), .no, (.va (.str w10)), (.va (.list (encL v9))), (.ow (encL s23)), (jc x13), .no, .no, .no, .no, .no, .no]) rfl ?_
  obtain ⟨r25, hr25, H⟩ := bd_some H
  refine ex_asgO (e2 := [(.io (potL r3.2)), (.va (.int a_1)), (.va (.int r1.1)), (.va (.list (encL r3.1))), .no, (.va (.str w10)), (.va (.list (encL v9))), (.ow (encL s23)), (jc x13), (.ow (encL r25)), .no, .no, .no, .no, .no]) (x_callL (ds := [(.list (encL r3.1))]) (as := [(.list (encL r3.1))]) (e3 := [(.io (potL r3.2)), (.va (.int a_1)), (.va (.int r1.1)), (.va (.list (encL r3.1))), .no, (.va (.str w10)), (.va (.list (encL v9))), (.ow (encL s23)), (jc x13), .no, .no, .no, .no, .no, .no]) gam10 (xs_cons (x_varS rfl) xs_nil) xs_nil rfl rfl (RO_at (t := ((Sq.mk false r3.1), ())) hr25)) rfl rfl ?_
  obtain ⟨r26, hr26, H⟩ := bd_some H
  obtain ⟨g27, H⟩ := gd_some H
  obtain ⟨g28, H⟩ := gd_some H
  refine ex_ifF (e2 := [(.io (potL r3.2)), (.va (.int a_1)), (.va (.int r1.1)), (.va (.list (encL r3.1))), .no, (.va (.str w10)), (.va (.list (encL v9))), (.ow (encL s23)), (jc x13), (.ow (encL r25)), .no, .no, .no, .no, .no]) (x_cmp (x_reprL (ds := [(.list (encL r25)), (.list (encL r26))]) (xs_cons (x_varS rfl) (xs_cons (x_callL (ds := [(.tuple (encL (Tp.mk r3.1).l))]) (as := [(.tuple (encL (Tp.mk r3.1).l))]) (e3 := [(.io (potL r3.2)), (.va (.int a_1)), (.va (.int r1.1)), (.va (.list (encL r3.1))), .no, (.va (.str w10)), (.va (.list (encL v9))), (.ow (encL s23)), (jc x13), (.ow (encL r25)), .no, .no, .no, .no, .no]) gam10 xs_nil (xs_cons (x_biV (ds := [(.list (encL r3.1))]) (xs_cons (x_var rfl) xs_nil) rfl l_tuple) xs_nil) rfl rfl (RO_at (t := ((Sq.mk true (Tp.mk r3.1).l), ())) hr26)) xs_nil)) rfl (repr_of (congrArg PyData.list (cons_eq (congrArg (fun z => ((.list (encL z)) : PyData)) g27.1) (cons_eq (congrArg (fun z => ((.list (encL z)) : PyData)) g27.2) rfl))) g28)) (x_reprL (ds := [(.list (encL s23)), (.list (encL s23))]) (xs_cons (x_varS rfl) (xs_cons (x_varS rfl) xs_nil)) rfl g28) rfl rfl (c_neR (congrArg PyData.list (cons_eq (congrArg (fun z => ((.list (encL z)) : PyData)) g27.1) (cons_eq (congrArg (fun z => ((.list (encL z)) : PyData)) g27.2) rfl))))) rfl rfl ?_
  obtain ⟨g29, H⟩ := gd_some H
  obtain ⟨w30, ew30, H⟩ := lt_some H
  refine ex_exp (e2 := [(.io (potL r3.2)), (.va (.int a_1)), (.va (.int r1.1)), (.va (.list (encL r3.1))), .no, (.va (.str w10)), (.va (.list (encL v9))), (.ow (encL s23)), (jc x13), (.ow w30), .no, .no, .no, .no, .no]) (x_mutO (ds := [.none]) (dp := (encL r25)) (e3 := [(.io (potL r3.2)), (.va (.int a_1)), (.va (.int r1.1)), (.va (.list (encL r3.1))), .no, (.va (.str w10)), (.va (.list (encL v9))), (.ow (encL s23)), (jc x13), (.ow w30), .no, .no, .no, .no, .no]) rfl (xs_cons x_cst xs_nil) rfl rfl (u_appR g29) (by subst ew30; rfl)) rfl ?_
  obtain ⟨r31, hr31, H⟩ := bd_some H
  refine ex_asgO (e2 := [(.io (potL r3.2)), (.va (.int a_1)), (.va (.int r1.1)), (.va (.list (encL r3.1))), .no, (.va (.str w10)), (.va (.list (encL v9))), (.va (.list (encL s23))), (jc x13), (.ow w30), (.ow (encL r31)), .no, .no, .no, .no]) (x_callL (ds := [(.list (encL s23))]) (as := [(.list (encL s23))]) (e3 := [(.io (potL r3.2)), (.va (.int a_1)), (.va (.int r1.1)), (.va (.list (encL r3.1))), .no, (.va (.str w10)), (.va (.list (encL v9))), (.va (.list (encL s23))), (jc x13), (.ow w30), .no, .no, .no, .no, .no]) gam11 (xs_cons (x_varS rfl) xs_nil) xs_nil rfl rfl (RO_at (t := ((Sq.mk false s23), ())) hr31)) rfl rfl ?_
  obtain ⟨r32, hr32, H⟩ := bd_some H
  obtain ⟨g33, H⟩ := gd_some H
  obtain ⟨g34, H⟩ := gd_some H
  refine ex_ifF (e2 := [(.io (potL r3.2)), (.va (.int a_1)), (.va (.int r1.1)), (.va (.list (encL r3.1))), .no, (.va (.str w10)), (.va (.list (encL v9))), (.va (.list (encL s23))), (jc x13), (.ow w30), (.ow (encL r31)), .no, .no, .no, .no]) (x_cmp (x_reprL (ds := [(.list (encL r31)), (.list (encL r32))]) (xs_cons (x_varS rfl) (xs_cons (x_callL (ds := [(.tuple (encL (Tp.mk s23).l))]) (as := [(.tuple (encL (Tp.mk s23).l))]) (e3 := [(.io (potL r3.2)), (.va (.int a_1)), (.va (.int r1.1)), (.va (.list (encL r3.1))), .no, (.va (.str w10)), (.va (.list (encL v9))), (.va (.list (encL s23))), (jc x13), (.ow w30), (.ow (encL r31)), .no, .no, .no, .no]) gam11 xs_nil (xs_cons (x_biV (ds := [(.list (encL s23))]) (xs_cons (x_var rfl) xs_nil) rfl l_tuple) xs_nil) rfl rfl (RO_at (t := ((Sq.mk true (Tp.mk s23).l), ())) hr32)) xs_nil)) rfl (repr_of (congrArg PyData.list (cons_eq (congrArg (fun z => ((.list (encL z)) : PyData)) g33.1) (cons_eq (congrArg (fun z => ((.list (encL z)) : PyData)) g33.2) rfl))) g34)) (x_reprL (ds := [(.list (encL r3.1)), (.list (encL r3.1))]) (xs_cons (x_var rfl) (xs_cons (x_var rfl) xs_nil)) rfl g34) rfl rfl (c_neR (congrArg PyData.list (cons_eq (congrArg (fun z => ((.list (encL z)) : PyData)) g33.1) (cons_eq (congrArg (fun z => ((.list (encL z)) : PyData)) g33.2) rfl))))) rfl rfl ?_
  obtain ⟨g35, H⟩ := gd_some H
  obtain ⟨w36, ew36, H⟩ := lt_some H
  refine ex_exp (e2 := [(.io (potL r3.2)), (.va (.int a_1)), (.va (.int r1.1)), (.va (.list (encL r3.1))), .no, (.va (.str w10)), (.va (.list (encL v9))), (.va (.list (encL s23))), (jc x13), (.ow w30), (.ow w36), .no, .no, .no, .no]) (x_mutO (ds := [.none]) (dp := (encL r31)) (e3 := [(.io (potL r3.2)), (.va (.int a_1)), (.va (.int r1.1)), (.va (.list (encL r3.1))), .no, (.va (.str w10)), (.va (.list (encL v9))), (.va (.list (encL s23))), (jc x13), (.ow w30), (.ow w36), .no, .no, .no, .no]) rfl (xs_cons x_cst xs_nil) rfl rfl (u_appR g35) (by subst ew36; rfl)) rfl ?_
  obtain ⟨r37, hr37, H⟩ := bd_some H
  obtain ⟨g38, H⟩ := gd_some H
  obtain ⟨g39, H⟩ := gd_some H
  refine ex_ifF (e2 := [(.io (potL r3.2)), (.va (.int a_1)), (.va (.int r1.1)), (.va (.list (encL r3.1))), .no, (.va (.str w10)), (.va (.list (encL v9))), (.va (.list (encL s23))), (jc x13), (.ow w30), (.ow w36), .no, .no, .no, .no]) (x_cmp (x_biV (ds := [(.list (encL r37))]) (xs_cons (x_callL (ds := [(.list (encL s23))]) (as := [(.list (encL s23))]) (e3 := [(.io (potL r3.2)), (.va (.int a_1)), (.va (.int r1.1)), (.va (.list (encL r3.1))), .no, (.va (.str w10)), (.va (.list (encL v9))), (.va (.list (encL s23))), (jc x13), (.ow w30), (.ow w36), .no, .no, .no, .no]) gam11 (xs_cons (x_biO (ds := [(.list (encL s23))]) (xs_cons (x_var rfl) xs_nil) rfl l_list) xs_nil) xs_nil rfl rfl (RO_at (t := ((Sq.mk false s23), ())) hr37)) xs_nil) rfl (l_repr (repr_of (congrArg (fun z => ((.list (encL z)) : PyData)) g38) g39))) (x_biV (ds := [(.list (encL r3.1))]) (xs_cons (x_var rfl) xs_nil) rfl (l_repr g39)) rfl rfl (c_neR (congrArg (fun z => ((.list (encL z)) : PyData)) g38))) rfl rfl ?_
  obtain ⟨r40, hr40, H⟩ := bd_some H
  refine ex_asgV (e2 := [(.io (potL r40.2)), (.va (.int a_1)), (.va (.int r1.1)), (.va (.list (encL r3.1))), (.va (.int r40.1)), (.va (.str w10)), (.va (.list (encL v9))), (.va (.list (encL s23))), (jc x13), (.ow w30), (.ow w36), .no, .no, .no, .no]) (x_callSI (ds := [(.int ((r3.1).length : Int))]) (e3 := [(.io (potL r40.2)), (.va (.int a_1)), (.va (.int r1.1)), (.va (.list (encL r3.1))), .no, (.va (.str w10)), (.va (.list (encL v9))), (.va (.list (encL s23))), (jc x13), (.ow w30), (.ow w36), .no, .no, .no, .no]) gam1 (xs_cons (x_varI rfl) (xs_cons (x_biV (ds := [(.list (encL r3.1))]) (xs_cons (x_var rfl) xs_nil) rfl l_len) xs_nil)) rfl rfl rfl (IV_at (p := r3.2) (t := (((r3.1).length : Int), ())) hr40) rfl) rfl rfl ?_
  obtain ⟨g41, H⟩ := gd_some H
  obtain ⟨g43, H⟩ := gd_some H
  obtain ⟨w44, ew44, H⟩ := lt_some H
  refine ex_asgO (e2 := [(.io (potL r40.2)), (.va (.int a_1)), (.va (.int r1.1)), (.va (.list (encL r3.1))), (.va (.int r40.1)), (.va (.str w10)), (.va (.list (encL v9))), (.va (.list (encL s23))), (jc x13), (.ow w30), (.ow w36), (.ow (encL w44)), .no, .no, .no]) (x_compP (g := (fun (a42 : Int) => (if (decide (a42 = r40.1)) = true then (1:Int) else (0:Int)))) (W := [(.io (potL r40.2)), (.va (.int a_1)), (.va (.int r1.1)), (.va (.list (encL r3.1))), (.va (.int r40.1)), (.va (.str w10)), (.va (.list (encL v9))), (.va (.list (encL s23))), (jc x13), (.ow w30), (.ow w36), .no, .no, .no, .no]) (e2 := [(.io (potL r40.2)), (.va (.int a_1)), (.va (.int r1.1)), (.va (.list (encL r3.1))), (.va (.int r40.1)), (.va (.str w10)), (.va (.list (encL v9))), (.va (.list (encL s23))), (jc x13), (.ow w30), (.ow w36), .no, .no, .no, .no]) (xr_rngL (ds := [(.int ((r3.1).length : Int))]) (xs_cons (x_biV (ds := [(.list (encL r3.1))]) (xs_cons (x_var rfl) xs_nil) rfl l_len) xs_nil) rfl (r_1 g41)) g43 rfl (fun a42 => ⟨_, _, _, _, rfl, (x_iteP (d := (.int (if (decide (a42 = r40.1)) = true then (1:Int) else (0:Int)))) (x_cmp (x_var rfl) (x_var rfl) rfl rfl c_eq) x_cst x_cst (fun h => by rw [if_pos h]; try rfl) (fun h => by rw [if_neg (by rw [h]; decide)]; try rfl)), rfl, rfl⟩) rfl) (by subst ew44; rfl) rfl ?_
  obtain ⟨g46, H⟩ := gd_some H
  obtain ⟨v52, hv52, H⟩ := bd_some H
  have cv52 : evE Γ (.comp (.ite (.bi .all (.cons (.comp (.inn false (.var 14) (.var 8)) (.nm 14) (.ex (.idx (.var 6) (.var 4))) .nil [14]) .nil)) (.ite (.cmp .eq (.bin .md (.bi .int (.cons (.bin .sub (.bi .len (.cons (.var 8) .nil)) (.bi .len (.cons (.idx (.var 6) (.var 4)) .nil))) .nil)) (.cst (.int (2)))) (.cst (.int (0)))) (.cst (.int (1))) (.neg (.cst (.int (1))))) (.cst (.int (0)))) (.nm 8) (.ex (.var 6)) .nil [8]) [(.io (potL r40.2)), (.va (.int a_1)), (.va (.int r1.1)), (.va (.list (encL r3.1))), (.va (.int r40.1)), (.va (.str w10)), (.va (.list (encL v9))), (.va (.list (encL s23))), (jc x13), (.ow w30), (.ow w36), (.ow (encL w44)), .no, .no, .no] = some (.ow (encL v52), [(.io (potL r40.2)), (.va (.int a_1)), (.va (.int r1.1)), (.va (.list (encL r3.1))), (.va (.int r40.1)), (.va (.str w10)), (.va (.list (encL v9))), (.va (.list (encL s23))), (jc x13), (.ow w30), (.ow w36), (.ow (encL w44)), .no, .no, .no]) := by
    refine x_compM (W := [(.io (potL r40.2)), (.va (.int a_1)), (.va (.int r1.1)), (.va (.list (encL r3.1))), (.va (.int r40.1)), (.va (.str w10)), (.va (.list (encL v9))), (.va (.list (encL s23))), .no, (.ow w30), (.ow w36), (.ow (encL w44)), .no, .no, .no]) (xr_exL (d := (.list (encL v9))) (e2 := [(.io (potL r40.2)), (.va (.int a_1)), (.va (.int r1.1)), (.va (.list (encL r3.1))), (.va (.int r40.1)), (.va (.str w10)), (.va (.list (encL v9))), (.va (.list (encL s23))), (jc x13), (.ow w30), (.ow w36), (.ow (encL w44)), .no, .no, .no]) (xs := v9) (x_var rfl) rfl t_list) g46 hv52 rfl (fun a45 y hy => ?_) (by cases x13 <;> rfl)
    obtain ⟨v47, hv47, hy⟩ := bd_some hy
    obtain ⟨g49, hy⟩ := gd_some hy
    obtain ⟨v50, hv50, hy⟩ := bd_some hy
    have pv50 : evE Γ (.ite (.bi .all (.cons (.comp (.inn false (.var 14) (.var 8)) (.nm 14) (.ex (.idx (.var 6) (.var 4))) .nil [14]) .nil)) (.ite (.cmp .eq (.bin .md (.bi .int (.cons (.bin .sub (.bi .len (.cons (.var 8) .nil)) (.bi .len (.cons (.idx (.var 6) (.var 4)) .nil))) .nil)) (.cst (.int (2)))) (.cst (.int (0)))) (.cst (.int (1))) (.neg (.cst (.int (1))))) (.cst (.int (0)))) [(.io (potL r40.2)), (.va (.int a_1)), (.va (.int r1.1)), (.va (.list (encL r3.1))), (.va (.int r40.1)), (.va (.str w10)), (.va (.list (encL v9))), (.va (.list (encL s23))), (.va (.tuple (encL a45.l))), (.ow w30), (.ow w36), (.ow (encL w44)), .no, .no, .no] = some (.va (.int v50), [(.io (potL r40.2)), (.va (.int a_1)), (.va (.int r1.1)), (.va (.list (encL r3.1))), (.va (.int r40.1)), (.va (.str w10)), (.va (.list (encL v9))), (.va (.list (encL s23))), (.va (.tuple (encL a45.l))), (.ow w30), (.ow w36), (.ow (encL w44)), .no, .no, .no]) := by
      by_cases hc : ((((v47.l).map (fun (a48 : Int) => ((a45.l).contains a48)))).all id) = true
      · rw [if_pos hc] at hv50
        obtain ⟨v51, hv51, hv50⟩ := bd_some hv50
        obtain rfl := some_inj hv50
        exact (x_iteT (x_biV (ds := [(.list (encL ((v47.l).map (fun (a48 : Int) => ((a45.l).contains a48)))))]) (xs_cons (x_compP (g := (fun (a48 : Int) => ((a45.l).contains a48))) (W := [(.io (potL r40.2)), (.va (.int a_1)), (.va (.int r1.1)), (.va (.list (encL r3.1))), (.va (.int r40.1)), (.va (.str w10)), (.va (.list (encL v9))), (.va (.list (encL s23))), (.va (.tuple (encL a45.l))), (.ow w30), (.ow w36), (.ow (encL w44)), .no, .no, .no]) (e2 := [(.io (potL r40.2)), (.va (.int a_1)), (.va (.int r1.1)), (.va (.list (encL r3.1))), (.va (.int r40.1)), (.va (.str w10)), (.va (.list (encL v9))), (.va (.list (encL s23))), (.va (.tuple (encL a45.l))), (.ow w30), (.ow w36), (.ow (encL w44)), .no, .no, .no]) (xr_exL (d := (.tuple (encL v47.l))) (e2 := [(.io (potL r40.2)), (.va (.int a_1)), (.va (.int r1.1)), (.va (.list (encL r3.1))), (.va (.int r40.1)), (.va (.str w10)), (.va (.list (encL v9))), (.va (.list (encL s23))), (.va (.tuple (encL a45.l))), (.ow w30), (.ow w36), (.ow (encL w44)), .no, .no, .no]) (xs := v47.l) (x_idx (x_var rfl) (x_var rfl) rfl rfl (i_list hv47)) rfl t_tup) g49 rfl (fun a48 => ⟨_, _, _, _, rfl, (x_inn (x_var rfl) (x_var rfl) rfl rfl n_inT), rfl, rfl⟩) rfl) xs_nil) rfl l_all) hc (x_iteP (d := (.int (if (decide ((((a45.l.length : Int) - (v51.l.length : Int)) % (2:Int)) = (0:Int))) = true then (1:Int) else (-1:Int)))) (x_cmp (x_binV (x_biV (ds := [(.int ((a45.l.length : Int) - (v51.l.length : Int)))]) (xs_cons (x_binV (x_biV (ds := [(.tuple (encL a45.l))]) (xs_cons (x_var rfl) xs_nil) rfl l_lenT) (x_biV (ds := [(.tuple (encL v51.l))]) (xs_cons (x_idx (x_var rfl) (x_var rfl) rfl rfl (i_list hv51)) xs_nil) rfl l_lenT) rfl rfl b_sub) xs_nil) rfl l_int) x_cst rfl rfl (b_mod (by decide))) x_cst rfl rfl c_eq) x_cst (x_neg x_cst) (fun h => by rw [if_pos h]; try rfl) (fun h => by rw [if_neg (by rw [h]; decide)]; try rfl)))
      · rw [if_neg hc] at hv50
        obtain rfl := some_inj hv50
        exact (x_iteF (x_biV (ds := [(.list (encL ((v47.l).map (fun (a48 : Int) => ((a45.l).contains a48)))))]) (xs_cons (x_compP (g := (fun (a48 : Int) => ((a45.l).contains a48))) (W := [(.io (potL r40.2)), (.va (.int a_1)), (.va (.int r1.1)), (.va (.list (encL r3.1))), (.va (.int r40.1)), (.va (.str w10)), (.va (.list (encL v9))), (.va (.list (encL s23))), (.va (.tuple (encL a45.l))), (.ow w30), (.ow w36), (.ow (encL w44)), .no, .no, .no]) (e2 := [(.io (potL r40.2)), (.va (.int a_1)), (.va (.int r1.1)), (.va (.list (encL r3.1))), (.va (.int r40.1)), (.va (.str w10)), (.va (.list (encL v9))), (.va (.list (encL s23))), (.va (.tuple (encL a45.l))), (.ow w30), (.ow w36), (.ow (encL w44)), .no, .no, .no]) (xr_exL (d := (.tuple (encL v47.l))) (e2 := [(.io (potL r40.2)), (.va (.int a_1)), (.va (.int r1.1)), (.va (.list (encL r3.1))), (.va (.int r40.1)), (.va (.str w10)), (.va (.list (encL v9))), (.va (.list (encL s23))), (.va (.tuple (encL a45.l))), (.ow w30), (.ow w36), (.ow (encL w44)), .no, .no, .no]) (xs := v47.l) (x_idx (x_var rfl) (x_var rfl) rfl rfl (i_list hv47)) rfl t_tup) g49 rfl (fun a48 => ⟨_, _, _, _, rfl, (x_inn (x_var rfl) (x_var rfl) rfl rfl n_inT), rfl, rfl⟩) rfl) xs_nil) rfl l_all) (bF hc) x_cst)
    obtain rfl := some_inj hy
    exact ⟨_, _, _, _, rfl, pv50, rfl, rfl⟩
  refine ex_asgO (e2 := [(.io (potL r40.2)), (.va (.int a_1)), (.va (.int r1.1)), (.va (.list (encL r3.1))), (.va (.int r40.1)), (.va (.str w10)), (.va (.list (encL v9))), (.va (.list (encL s23))), (jc x13), (.ow w30), (.ow w36), (.ow (encL w44)), (.ow (encL v52)), .no, .no]) cv52 rfl rfl ?_
  obtain ⟨r53, hr53, H⟩ := bd_some H
  obtain ⟨g54, H⟩ := gd_some H
  obtain ⟨r55, hr55, H⟩ := bd_some H
  obtain ⟨g56, H⟩ := gd_some H
  obtain ⟨g57, H⟩ := gd_some H
  obtain ⟨g58, H⟩ := gd_some H
  obtain rfl := some_inj H
  exact ⟨_, y_rt (y_retV (x_andT (x_to (x_cmp (x_callL (ds := [(.list (encL w44))]) (as := [(.list (encL w44))]) (e3 := [(.io (potL r40.2)), (.va (.int a_1)), (.va (.int r1.1)), (.va (.list (encL r3.1))), (.va (.int r40.1)), (.va (.str w10)), (.va (.list (encL v9))), (.va (.list (encL s23))), (jc x13), (.ow w30), (.ow w36), (.va (.list (encL w44))), (.ow (encL v52)), .no, .no]) gam11 (xs_cons (x_varS rfl) xs_nil) xs_nil rfl rfl (RO_at (t := ((Sq.mk false w44), ())) hr53)) (x_varS rfl) rfl rfl (c_eqL r53 v52)) (dec_T g54)) (x_andT (x_to (x_cmp (x_callL (ds := [(.list (encL v52))]) (as := [(.list (encL v52))]) (e3 := [(.io (potL r40.2)), (.va (.int a_1)), (.va (.int r1.1)), (.va (.list (encL r3.1))), (.va (.int r40.1)), (.va (.str w10)), (.va (.list (encL v9))), (.va (.list (encL s23))), (jc x13), (.ow w30), (.ow w36), (.va (.list (encL w44))), (.va (.list (encL v52))), .no, .no]) gam10 (xs_cons (x_varS rfl) xs_nil) xs_nil rfl rfl (RO_at (t := ((Sq.mk false v52), ())) hr55)) (x_var rfl) rfl rfl (c_eqL r55 w44)) (dec_T g56)) (x_to (x_cmp (x_biV (ds := [(.list (encL r3.1))]) (xs_cons (x_var rfl) xs_nil) rfl (l_repr g57)) (x_var rfl) rfl rfl c_eqS) (dcd_T g58)))))⟩)
set_option maxHeartbeats 2000000 in
theorem do13 : Does (IO_ (fun q : Pot × (List Int) × Unit => t__law_mixed q.1 q.2.1)) Γ true 4 ir13 := IO_of (fun q r H => by
  obtain ⟨a_0, a_1, ⟨⟩⟩ := q
  replace H : t__law_mixed a_0 a_1 = some r := H
  unfold t__law_mixed at H
  refine f_runI (env := [(.io (potL a_0)), (.va (.list (encL a_1))), .no, .no]) rfl ?_
  refine ex_par (e4 := [(.io (potL a_0)), (.va (.list (encL a_1))), (.ow (encL a_1)), (.ow (encL ([] : (List Int))))]) (xs_cons (x_biO (ds := [(.list (encL a_1))]) (xs_cons (x_var rfl) xs_nil) rfl l_list) (xs_cons (x_lst' xs_nil rfl rfl) xs_nil)) rfl rfl rfl ?_
  obtain ⟨s9, hs9, H⟩ := bd_some H
  refine ex_whl (Y := Unit) hs9 (fun (x2 : Unit) (s1 : Pot × (List Int) × (List Int)) => [(.io (potL s1.1)), (.va (.list (encL a_1))), (.ow (encL s1.2.1)), (.ow (encL s1.2.2))]) () rfl (fun x2 s1 _ hc3 => ?_) (fun x2 s1 _ hb4 => ?_) (fun x2 => ?_)
  · show evE Γ _ [(.io (potL s1.1)), (.va (.list (encL a_1))), (.ow (encL s1.2.1)), (.ow (encL s1.2.2))] = some (_, [(.io (potL s1.1)), (.va (.list (encL a_1))), (.ow (encL s1.2.1)), (.ow (encL s1.2.2))])
    obtain rfl := some_inj hc3
    exact (x_cmp (x_varS rfl) (x_lst' xs_nil rfl rfl) rfl rfl (c_neL s1.2.1 []))
  · refine ex_env (e1 := [(.io (potL s1.1)), (.va (.list (encL a_1))), (.ow (encL s1.2.1)), (.ow (encL s1.2.2))]) rfl ?_
    obtain ⟨r5, hr5, hb4⟩ := bd_some hb4
    obtain ⟨v6, hv6, hb4⟩ := bd_some hb4
    obtain ⟨g7, hb4⟩ := gd_some hb4
    obtain ⟨w8, ew8, hb4⟩ := lt_some hb4
    refine ex_exp (e2 := [(.io (potL r5.2)), (.va (.list (encL a_1))), (.ow (encL v6.2)), (.ow (encL w8))]) (x_mutO (ds := [(.int v6.1)]) (dp := (encL s1.2.2)) (e3 := [(.io (potL r5.2)), (.va (.list (encL a_1))), (.ow (encL v6.2)), (.ow (encL w8))]) rfl (xs_cons (x_mutO (ds := [(.int r5.1)]) (dp := (encL s1.2.1)) (e3 := [(.io (potL r5.2)), (.va (.list (encL a_1))), (.ow (encL v6.2)), (.ow (encL s1.2.2))]) rfl (xs_cons (x_callSI (ds := [(.int ((s1.2.1).length : Int))]) (e3 := [(.io (potL r5.2)), (.va (.list (encL a_1))), (.ow (encL s1.2.1)), (.ow (encL s1.2.2))]) gam1 (xs_cons (x_varI rfl) (xs_cons (x_biV (ds := [(.list (encL s1.2.1))]) (xs_cons (x_varS rfl) xs_nil) rfl l_len) xs_nil)) rfl rfl rfl (IV_at (p := s1.1) (t := (((s1.2.1).length : Int), ())) hr5) rfl) xs_nil) rfl rfl (u_popAt hv6) rfl) xs_nil) rfl rfl (u_app g7) (by subst ew8; rfl)) rfl ?_
    obtain rfl := some_inj hb4
    exact ⟨(), y_nil⟩
  refine ex_env (e1 := [(.io (potL s9.1)), (.va (.list (encL a_1))), (.ow (encL s9.2.1)), (.ow (encL s9.2.2))]) rfl ?_
  obtain rfl := some_inj H
  exact ⟨_, y_rt (y_retS (x_varS rfl) rfl rfl)⟩)
set_option maxHeartbeats 2000000 in
theorem do14 : Does (IV (fun q : Pot × Unit => t__law_marks_right q.1)) Γ true 17 ir14 := IV_of (fun q r H => by
  obtain ⟨a_0, ⟨⟩⟩ := q
  replace H : t__law_marks_right a_0 = some r := H
  unfold t__law_marks_right at H
  refine f_runI (env := [(.io (potL a_0)), .no, .no, .no, .no, .no, .no, .no, .no, .no, .no, .no, .no, .no, .no, .no, .no]) rfl ?_
  obtain ⟨r1, hr1, H⟩ := bd_some H
  refine ex_asgV (e2 := [(.io (potL r1.2)), (.va (.int r1.1)), .no, .no, .no, .no, .no, .no, .no, .no, .no, .no, .no, .no, .no, .no, .no]) (x_callSI (ds := [(.int (5:Int))]) (e3 := [(.io (potL r1.2)), .no, .no, .no, .no, .no, .no, .no, .no, .no, .no, .no, .no, .no, .no, .no, .no]) gam1 (xs_cons (x_varI rfl) (xs_cons x_cst xs_nil)) rfl rfl rfl (IV_at (p := a_0) (t := ((5:Int), ())) hr1) rfl) rfl rfl ?_
  obtain ⟨g2, H⟩ := gd_some H
  obtain ⟨g3, H⟩ := gd_some H
  obtain ⟨r4, hr4, H⟩ := bd_some H
  obtain ⟨r5, hr5, H⟩ := bd_some H
  refine ex_par (e4 := [(.io (potL r4.2)), (.va (.int r1.1)), (.ow (encL r4.1)), (.va (.int r5)), .no, .no, .no, .no, .no, .no, .no, .no, .no, .no, .no, .no, .no]) (xs_cons (x_callSL (ds := [(.list (encL (rng1 r1.1)))]) (e3 := [(.io (potL r4.2)), (.va (.int r1.1)), .no, .no, .no, .no, .no, .no, .no, .no, .no, .no, .no, .no, .no, .no, .no]) gam13 (xs_cons (x_varI rfl) (xs_cons (x_rngL (ds := [(.int r1.1)]) (xs_cons (x_var rfl) xs_nil) rfl (r_1 g2) g3) xs_nil)) rfl rfl rfl (IO_at (p := r1.2) (t := ((rng1 r1.1), ())) hr4) rfl) (xs_cons (x_callV (ds := [(.int r1.1)]) (as := [(.int r1.1)]) (e3 := [(.io (potL r4.2)), (.va (.int r1.1)), .no, .no, .no, .no, .no, .no, .no, .no, .no, .no, .no, .no, .no, .no, .no]) gam4 (xs_cons (x_var rfl) xs_nil) xs_nil rfl rfl (RV_at (t := (r1.1, ())) hr5)) xs_nil)) rfl rfl rfl ?_
  obtain ⟨g6, H⟩ := gd_some H
  obtain ⟨g8, H⟩ := gd_some H
  obtain ⟨v10, hv10, H⟩ := bd_some H
  have cv10 : evE Γ (.comp (.call 5 (.cons (.var 1) (.cons (.var 4) .nil)) .nil [0, 1]) (.nm 4) (.rng (.cons (.var 3) .nil)) .nil [4]) [(.io (potL r4.2)), (.va (.int r1.1)), (.ow (encL r4.1)), (.va (.int r5)), .no, .no, .no, .no, .no, .no, .no, .no, .no, .no, .no, .no, .no] = some (.ow (encL v10), [(.io (potL r4.2)), (.va (.int r1.1)), (.ow (encL r4.1)), (.va (.int r5)), .no, .no, .no, .no, .no, .no, .no, .no, .no, .no, .no, .no, .no]) := by
    refine x_compM (W := [(.io (potL r4.2)), (.va (.int r1.1)), (.ow (encL r4.1)), (.va (.int r5)), .no, .no, .no, .no, .no, .no, .no, .no, .no, .no, .no, .no, .no]) (xr_rngL (ds := [(.int r5)]) (xs_cons (x_var rfl) xs_nil) rfl (r_1 g6)) g8 hv10 rfl (fun a7 y hy => ?_) rfl
    obtain ⟨r9, hr9, hy⟩ := bd_some hy
    obtain rfl := some_inj hy
    exact ⟨_, _, _, _, rfl, (x_callV (ds := [(.int r1.1), (.int a7)]) (as := [(.int r1.1), (.int a7)]) (e3 := [(.io (potL r4.2)), (.va (.int r1.1)), (.ow (encL r4.1)), (.va (.int r5)), (.va (.int a7)), .no, .no, .no, .no, .no, .no, .no, .no, .no, .no, .no, .no]) gam5 (xs_cons (x_var rfl) (xs_cons (x_var rfl) xs_nil)) xs_nil rfl rfl (RV_at (t := (r1.1, (a7, ()))) hr9)), rfl, rfl⟩
  refine ex_asgO (e2 := [(.io (potL r4.2)), (.va (.int r1.1)), (.ow (encL r4.1)), (.va (.int r5)), .no, (.ow (encL v10)), .no, .no, .no, .no, .no, .no, .no, .no, .no, .no, .no]) (x_pre (e1 := [(.io (potL r4.2)), (.va (.int r1.1)), (.ow (encL r4.1)), (.va (.int r5)), .no, .no, .no, .no, .no, .no, .no, .no, .no, .no, .no, .no, .no]) rfl cv10) rfl rfl ?_
  obtain ⟨r11, hr11, H⟩ := bd_some H
  obtain ⟨g12, H⟩ := gd_some H
  obtain ⟨g14, H⟩ := gd_some H
  obtain ⟨v18, hv18, H⟩ := bd_some H
  have cv18 : evE Γ (.comp (.idx (.var 5) (.call 1 (.cons (.var 0) (.cons (.var 3) .nil)) .nil [0, 1])) (.nm 13) (.rng (.cons (.call 1 (.cons (.var 0) (.cons (.cst (.int (20))) .nil)) .nil [0, 1]) .nil)) .nil [13]) [(.io (potL r4.2)), (.va (.int r1.1)), (.ow (encL r4.1)), (.va (.int r5)), .no, (.ow (encL v10)), .no, .no, .no, .no, .no, .no, .no, .no, .no, .no, .no] = some (.ow (encL v18.1), [(.io (potL v18.2)), (.va (.int r1.1)), (.ow (encL r4.1)), (.va (.int r5)), .no, (.ow (encL v10)), .no, .no, .no, .no, .no, .no, .no, .no, .no, .no, .no]) := by
    refine x_compS (xr_rngL (ds := [(.int r11.1)]) (xs_cons (x_callSI (ds := [(.int (20:Int))]) (e3 := [(.io (potL r11.2)), (.va (.int r1.1)), (.ow (encL r4.1)), (.va (.int r5)), .no, (.ow (encL v10)), .no, .no, .no, .no, .no, .no, .no, .no, .no, .no, .no]) gam1 (xs_cons (x_varI rfl) (xs_cons x_cst xs_nil)) rfl rfl rfl (IV_at (p := r4.2) (t := ((20:Int), ())) hr11) rfl) xs_nil) rfl (r_1 g12)) g14 hv18 (fun (s15 : Pot) => [(.io (potL s15)), (.va (.int r1.1)), (.ow (encL r4.1)), (.va (.int r5)), .no, (.ow (encL v10)), .no, .no, .no, .no, .no, .no, .no, .no, .no, .no, .no]) rfl (fun a13 s15 y hy => ?_) rfl
    obtain ⟨r16, hr16, hy⟩ := bd_some hy
    obtain ⟨v17, hv17, hy⟩ := bd_some hy
    obtain rfl := some_inj hy
    exact ⟨_, _, _, _, rfl, (x_idx (x_varS rfl) (x_callSI (ds := [(.int r5)]) (e3 := [(.io (potL r16.2)), (.va (.int r1.1)), (.ow (encL r4.1)), (.va (.int r5)), .no, (.ow (encL v10)), .no, .no, .no, .no, .no, .no, .no, (.va (.int a13)), .no, .no, .no]) gam1 (xs_cons (x_varI rfl) (xs_cons (x_var rfl) xs_nil)) rfl rfl rfl (IV_at (p := s15) (t := (r5, ())) hr16) rfl) rfl rfl (i_list hv17)), rfl, rfl⟩
  refine ex_asgO (e2 := [(.io (potL v18.2)), (.va (.int r1.1)), (.ow (encL r4.1)), (.va (.int r5)), .no, (.ow (encL v10)), (.ow (encL v18.1)), .no, .no, .no, .no, .no, .no, .no, .no, .no, .no]) (x_pre (e1 := [(.io (potL r4.2)), (.va (.int r1.1)), (.ow (encL r4.1)), (.va (.int r5)), .no, (.ow (encL v10)), .no, .no, .no, .no, .no, .no, .no, .no, .no, .no, .no]) rfl cv18) rfl rfl ?_
  obtain ⟨g20, H⟩ := gd_some H
  obtain ⟨w21, ew21, H⟩ := lt_some H
  refine ex_asgO (e2 := [(.io (potL v18.2)), (.va (.int r1.1)), (.ow (encL r4.1)), (.va (.int r5)), .no, (.va (.list (encL v10))), (.ow (encL v18.1)), (.ow (encL w21)), .no, .no, .no, .no, .no, .no, .no, .no, .no]) (x_compP (g := (fun (a19 : (Tp Int)) => (((v18.1).countP fun z => dec (z = a19) : Nat) : Int))) (W := [(.io (potL v18.2)), (.va (.int r1.1)), (.ow (encL r4.1)), (.va (.int r5)), .no, (.va (.list (encL v10))), (.ow (encL v18.1)), .no, .no, .no, .no, .no, .no, .no, .no, .no, .no]) (e2 := [(.io (potL v18.2)), (.va (.int r1.1)), (.ow (encL r4.1)), (.va (.int r5)), .no, (.va (.list (encL v10))), (.ow (encL v18.1)), .no, .no, .no, .no, .no, .no, .no, .no, .no, .no]) (xr_exL (d := (.list (encL v10))) (e2 := [(.io (potL v18.2)), (.va (.int r1.1)), (.ow (encL r4.1)), (.va (.int r5)), .no, (.va (.list (encL v10))), (.ow (encL v18.1)), .no, .no, .no, .no, .no, .no, .no, .no, .no, .no]) (xs := v10) (x_varS rfl) rfl t_list) g20 rfl (fun a19 => ⟨_, _, _, _, rfl, (x_mth (x_varS rfl) rfl (x_var rfl) rfl rfl rfl m_countT), rfl, rfl⟩) rfl) (by subst ew21; rfl) rfl ?_
  obtain ⟨g23, H⟩ := gd_some H
  obtain ⟨v29, hv29, H⟩ := bd_some H
  have cv29 : evE Γ (.comp (.bi .len (.cons (.comp (.var 8) (.nm 8) (.ex (.var 6)) (.cons (.bi .all (.cons (.comp (.inn false (.var 15) (.var 14)) (.nm 15) (.ex (.var 8)) .nil [15]) .nil)) .nil) [8]) .nil)) (.nm 14) (.ex (.var 5)) .nil [14]) [(.io (potL v18.2)), (.va (.int r1.1)), (.ow (encL r4.1)), (.va (.int r5)), .no, (.va (.list (encL v10))), (.va (.list (encL v18.1))), (.ow (encL w21)), .no, .no, .no, .no, .no, .no, .no, .no, .no] = some (.ow (encL v29), [(.io (potL v18.2)), (.va (.int r1.1)), (.ow (encL r4.1)), (.va (.int r5)), .no, (.va (.list (encL v10))), (.va (.list (encL v18.1))), (.ow (encL w21)), .no, .no, .no, .no, .no, .no, .no, .no, .no]) := by
    refine x_compM (W := [(.io (potL v18.2)), (.va (.int r1.1)), (.ow (encL r4.1)), (.va (.int r5)), .no, (.va (.list (encL v10))), (.va (.list (encL v18.1))), (.ow (encL w21)), .no, .no, .no, .no, .no, .no, .no, .no, .no]) (xr_exL (d := (.list (encL v10))) (e2 := [(.io (potL v18.2)), (.va (.int r1.1)), (.ow (encL r4.1)), (.va (.int r5)), .no, (.va (.list (encL v10))), (.va (.list (encL v18.1))), (.ow (encL w21)), .no, .no, .no, .no, .no, .no, .no, .no, .no]) (xs := v10) (x_var rfl) rfl t_list) g23 hv29 rfl (fun a22 y hy => ?_) rfl
    obtain ⟨g25, hy⟩ := gd_some hy
    obtain ⟨v28, hv28, hy⟩ := bd_some hy
    have cv28 : evE Γ (.comp (.var 8) (.nm 8) (.ex (.var 6)) (.cons (.bi .all (.cons (.comp (.inn false (.var 15) (.var 14)) (.nm 15) (.ex (.var 8)) .nil [15]) .nil)) .nil) [8]) [(.io (potL v18.2)), (.va (.int r1.1)), (.ow (encL r4.1)), (.va (.int r5)), .no, (.va (.list (encL v10))), (.va (.list (encL v18.1))), (.ow (encL w21)), .no, .no, .no, .no, .no, .no, (.va (.tuple (encL a22.l))), .no, .no] = some (.ow (encL v28), [(.io (potL v18.2)), (.va (.int r1.1)), (.ow (encL r4.1)), (.va (.int r5)), .no, (.va (.list (encL v10))), (.va (.list (encL v18.1))), (.ow (encL w21)), .no, .no, .no, .no, .no, .no, (.va (.tuple (encL a22.l))), .no, .no]) := by
      refine x_compF (W := [(.io (potL v18.2)), (.va (.int r1.1)), (.ow (encL r4.1)), (.va (.int r5)), .no, (.va (.list (encL v10))), (.va (.list (encL v18.1))), (.ow (encL w21)), .no, .no, .no, .no, .no, .no, (.va (.tuple (encL a22.l))), .no, .no]) (xr_exL (d := (.list (encL v18.1))) (e2 := [(.io (potL v18.2)), (.va (.int r1.1)), (.ow (encL r4.1)), (.va (.int r5)), .no, (.va (.list (encL v10))), (.va (.list (encL v18.1))), (.ow (encL w21)), .no, .no, .no, .no, .no, .no, (.va (.tuple (encL a22.l))), .no, .no]) (xs := v18.1) (x_var rfl) rfl t_list) g25 hv28 rfl (fun a24 u hy => ?_) (fun a24 y hy => ?_) rfl
      · obtain ⟨g27, hy⟩ := gd_some hy
        obtain rfl := some_inj hy
        exact ⟨_, rfl, (x_biV (ds := [(.list (encL ((a24.l).map (fun (a26 : Int) => ((a22.l).contains a26)))))]) (xs_cons (x_compP (g := (fun (a26 : Int) => ((a22.l).contains a26))) (W := [(.io (potL v18.2)), (.va (.int r1.1)), (.ow (encL r4.1)), (.va (.int r5)), .no, (.va (.list (encL v10))), (.va (.list (encL v18.1))), (.ow (encL w21)), (.va (.tuple (encL a24.l))), .no, .no, .no, .no, .no, (.va (.tuple (encL a22.l))), .no, .no]) (e2 := [(.io (potL v18.2)), (.va (.int r1.1)), (.ow (encL r4.1)), (.va (.int r5)), .no, (.va (.list (encL v10))), (.va (.list (encL v18.1))), (.ow (encL w21)), (.va (.tuple (encL a24.l))), .no, .no, .no, .no, .no, (.va (.tuple (encL a22.l))), .no, .no]) (xr_exL (d := (.tuple (encL a24.l))) (e2 := [(.io (potL v18.2)), (.va (.int r1.1)), (.ow (encL r4.1)), (.va (.int r5)), .no, (.va (.list (encL v10))), (.va (.list (encL v18.1))), (.ow (encL w21)), (.va (.tuple (encL a24.l))), .no, .no, .no, .no, .no, (.va (.tuple (encL a22.l))), .no, .no]) (xs := a24.l) (x_var rfl) rfl t_tup) g27 rfl (fun a26 => ⟨_, _, _, _, rfl, (x_inn (x_var rfl) (x_var rfl) rfl rfl n_inT), rfl, rfl⟩) rfl) xs_nil) rfl l_all), rfl⟩
      · skip
        obtain rfl := some_inj hy
        exact ⟨_, _, _, _, rfl, (x_var rfl), rfl, rfl⟩
    obtain rfl := some_inj hy
    exact ⟨_, _, _, _, rfl, (x_biV (ds := [(.list (encL v28))]) (xs_cons cv28 xs_nil) rfl l_len), rfl, rfl⟩
  refine ex_asgO (e2 := [(.io (potL v18.2)), (.va (.int r1.1)), (.ow (encL r4.1)), (.va (.int r5)), .no, (.va (.list (encL v10))), (.va (.list (encL v18.1))), (.ow (encL w21)), .no, (.ow (encL v29)), .no, .no, .no, .no, .no, .no, .no]) (x_pre (e1 := [(.io (potL v18.2)), (.va (.int r1.1)), (.ow (encL r4.1)), (.va (.int r5)), .no, (.va (.list (encL v10))), (.va (.list (encL v18.1))), (.ow (encL w21)), .no, .no, .no, .no, .no, .no, .no, .no, .no]) rfl cv29) rfl rfl ?_
  obtain ⟨r30, hr30, H⟩ := bd_some H
  obtain ⟨g31, H⟩ := gd_some H
  obtain ⟨r32, hr32, H⟩ := bd_some H
  obtain ⟨g33, H⟩ := gd_some H
  refine ex_ifF (e2 := [(.io (potL v18.2)), (.va (.int r1.1)), (.ow (encL r4.1)), (.va (.int r5)), .no, (.va (.list (encL v10))), (.va (.list (encL v18.1))), (.ow (encL w21)), .no, (.ow (encL v29)), .no, .no, .no, .no, .no, .no, .no]) (x_orF (x_to (x_cmp (x_callL (ds := [(.list (encL w21))]) (as := [(.list (encL w21))]) (e3 := [(.io (potL v18.2)), (.va (.int r1.1)), (.ow (encL r4.1)), (.va (.int r5)), .no, (.va (.list (encL v10))), (.va (.list (encL v18.1))), (.ow (encL w21)), .no, (.ow (encL v29)), .no, .no, .no, .no, .no, .no, .no]) gam10 (xs_cons (x_biO (ds := [(.list (encL w21))]) (xs_cons (x_varS rfl) xs_nil) rfl l_list) xs_nil) xs_nil rfl rfl (RO_at (t := ((Sq.mk false w21), ())) hr30)) (x_varS rfl) rfl rfl (c_neL r30 v29)) (ndc_F g31)) (x_to (x_cmp (x_callL (ds := [(.list (encL v29))]) (as := [(.list (encL v29))]) (e3 := [(.io (potL v18.2)), (.va (.int r1.1)), (.ow (encL r4.1)), (.va (.int r5)), .no, (.va (.list (encL v10))), (.va (.list (encL v18.1))), (.ow (encL w21)), .no, (.ow (encL v29)), .no, .no, .no, .no, .no, .no, .no]) gam11 (xs_cons (x_biO (ds := [(.list (encL v29))]) (xs_cons (x_varS rfl) xs_nil) rfl l_list) xs_nil) xs_nil rfl rfl (RO_at (t := ((Sq.mk false v29), ())) hr32)) (x_varS rfl) rfl rfl (c_neL r32 w21)) (ndc_F g33))) rfl rfl ?_
  obtain ⟨g35, H⟩ := gd_some H
  obtain ⟨v41, hv41, H⟩ := bd_some H
  have cv41 : evE Γ (.comp (.mth .index (.var 5) (.bi .tuple (.cons (.bi .sorted (.cons (.comp (.idx (.var 2) (.var 16)) (.nm 16) (.ex (.var 14)) .nil [16]) .nil)) .nil))) (.nm 14) (.ex (.var 5)) .nil [14]) [(.io (potL v18.2)), (.va (.int r1.1)), (.ow (encL r4.1)), (.va (.int r5)), .no, (.va (.list (encL v10))), (.va (.list (encL v18.1))), (.ow (encL w21)), .no, (.ow (encL v29)), .no, .no, .no, .no, .no, .no, .no] = some (.ow (encL v41), [(.io (potL v18.2)), (.va (.int r1.1)), (.ow (encL r4.1)), (.va (.int r5)), .no, (.va (.list (encL v10))), (.va (.list (encL v18.1))), (.ow (encL w21)), .no, (.ow (encL v29)), .no, .no, .no, .no, .no, .no, .no]) := by
    refine x_compM (W := [(.io (potL v18.2)), (.va (.int r1.1)), (.ow (encL r4.1)), (.va (.int r5)), .no, (.va (.list (encL v10))), (.va (.list (encL v18.1))), (.ow (encL w21)), .no, (.ow (encL v29)), .no, .no, .no, .no, .no, .no, .no]) (xr_exL (d := (.list (encL v10))) (e2 := [(.io (potL v18.2)), (.va (.int r1.1)), (.ow (encL r4.1)), (.va (.int r5)), .no, (.va (.list (encL v10))), (.va (.list (encL v18.1))), (.ow (encL w21)), .no, (.ow (encL v29)), .no, .no, .no, .no, .no, .no, .no]) (xs := v10) (x_var rfl) rfl t_list) g35 hv41 rfl (fun a34 y hy => ?_) rfl
    obtain ⟨g37, hy⟩ := gd_some hy
    obtain ⟨v39, hv39, hy⟩ := bd_some hy
    have cv39 : evE Γ (.comp (.idx (.var 2) (.var 16)) (.nm 16) (.ex (.var 14)) .nil [16]) [(.io (potL v18.2)), (.va (.int r1.1)), (.ow (encL r4.1)), (.va (.int r5)), .no, (.va (.list (encL v10))), (.va (.list (encL v18.1))), (.ow (encL w21)), .no, (.ow (encL v29)), .no, .no, .no, .no, (.va (.tuple (encL a34.l))), .no, .no] = some (.ow (encL v39), [(.io (potL v18.2)), (.va (.int r1.1)), (.ow (encL r4.1)), (.va (.int r5)), .no, (.va (.list (encL v10))), (.va (.list (encL v18.1))), (.ow (encL w21)), .no, (.ow (encL v29)), .no, .no, .no, .no, (.va (.tuple (encL a34.l))), .no, .no]) := by
      refine x_compM (W := [(.io (potL v18.2)), (.va (.int r1.1)), (.ow (encL r4.1)), (.va (.int r5)), .no, (.va (.list (encL v10))), (.va (.list (encL v18.1))), (.ow (encL w21)), .no, (.ow (encL v29)), .no, .no, .no, .no, (.va (.tuple (encL a34.l))), .no, .no]) (xr_exL (d := (.tuple (encL a34.l))) (e2 := [(.io (potL v18.2)), (.va (.int r1.1)), (.ow (encL r4.1)), (.va (.int r5)), .no, (.va (.list (encL v10))), (.va (.list (encL v18.1))), (.ow (encL w21)), .no, (.ow (encL v29)), .no, .no, .no, .no, (.va (.tuple (encL a34.l))), .no, .no]) (xs := a34.l) (x_var rfl) rfl t_tup) g37 hv39 rfl (fun a36 y hy => ?_) rfl
      obtain ⟨v38, hv38, hy⟩ := bd_some hy
      obtain rfl := some_inj hy
      exact ⟨_, _, _, _, rfl, (x_idx (x_varS rfl) (x_var rfl) rfl rfl (i_list hv38)), rfl, rfl⟩
    obtain ⟨v40, hv40, hy⟩ := bd_some hy
    obtain rfl := some_inj hy
    exact ⟨_, _, _, _, rfl, (x_mth (x_var rfl) rfl (x_biV (ds := [(.list (encL (sortI v39)))]) (xs_cons (x_biO (ds := [(.list (encL v39))]) (xs_cons cv39 xs_nil) rfl l_sorted) xs_nil) rfl l_tuple) rfl rfl rfl (m_idxT hv40)), rfl, rfl⟩
  refine ex_asgO (e2 := [(.io (potL v18.2)), (.va (.int r1.1)), (.ow (encL r4.1)), (.va (.int r5)), .no, (.va (.list (encL v10))), (.va (.list (encL v18.1))), (.ow (encL w21)), .no, (.ow (encL v29)), (.ow (encL v41)), .no, .no, .no, .no, .no, .no]) cv41 rfl rfl ?_
  obtain ⟨g42, H⟩ := gd_some H
  obtain ⟨w43, ew43, H⟩ := lt_some H
  refine ex_asgO (e2 := [(.io (potL v18.2)), (.va (.int r1.1)), (.ow (encL r4.1)), (.va (.int r5)), .no, (.va (.list (encL v10))), (.va (.list (encL v18.1))), (.ow (encL w21)), .no, (.ow (encL v29)), (.ow (encL v41)), (.ow (encL w43)), .no, .no, .no, .no, .no]) (x_binO (x_lst' (ds := [(.int (0:Int))]) (e2 := [(.io (potL v18.2)), (.va (.int r1.1)), (.ow (encL r4.1)), (.va (.int r5)), .no, (.va (.list (encL v10))), (.va (.list (encL v18.1))), (.ow (encL w21)), .no, (.ow (encL v29)), (.ow (encL v41)), .no, .no, .no, .no, .no, .no]) (xs_cons x_cst xs_nil) rfl rfl) (x_var rfl) rfl rfl (b_rep g42)) (by subst ew43; rfl) rfl ?_
  obtain ⟨s50, hs50, H⟩ := bd_some H
  refine ex_for (Y := Option PyData × Option PyData) (e1 := [(.io (potL v18.2)), (.va (.int r1.1)), (.ow (encL r4.1)), (.va (.int r5)), .no, (.va (.list (encL v10))), (.va (.list (encL v18.1))), (.va (.list (encL w21))), .no, (.ow (encL v29)), (.ow (encL v41)), (.ow (encL w43)), .no, .no, .no, .no, .no]) (xr_enumL (d := (.list (encL w21))) (e2 := [(.io (potL v18.2)), (.va (.int r1.1)), (.ow (encL r4.1)), (.va (.int r5)), .no, (.va (.list (encL v10))), (.va (.list (encL v18.1))), (.va (.list (encL w21))), .no, (.ow (encL v29)), (.ow (encL v41)), (.ow (encL w43)), .no, .no, .no, .no, .no]) (xs := w21) (x_varS rfl) rfl t_list) hs50 (fun (x46 : Option PyData × Option PyData) (s45 : (List Int)) => [(.io (potL v18.2)), (.va (.int r1.1)), (.ow (encL r4.1)), (.va (.int r5)), (jc x46.1), (.va (.list (encL v10))), (.va (.list (encL v18.1))), (.va (.list (encL w21))), (jc x46.2), (.ow (encL v29)), (.ow (encL v41)), (.ow (encL s45)), .no, .no, .no, .no, .no]) (none, none) rfl (fun a44 x46 s45 _ hb47 => ?_) (fun x46 => ?_)
  · refine ex_t (e1 := [(.io (potL v18.2)), (.va (.int r1.1)), (.ow (encL r4.1)), (.va (.int r5)), (.va (.int a44.1)), (.va (.list (encL v10))), (.va (.list (encL v18.1))), (.va (.list (encL w21))), (.va (.int a44.2)), (.ow (encL v29)), (.ow (encL v41)), (.ow (encL s45)), .no, .no, .no, .no, .no]) rfl ?_
    obtain ⟨v48, hv48, hb47⟩ := bd_some hb47
    obtain ⟨v49, hv49, hb47⟩ := bd_some hb47
    refine ex_asgT (d := (.int a44.2)) (e3 := [(.io (potL v18.2)), (.va (.int r1.1)), (.ow (encL r4.1)), (.va (.int r5)), (.va (.int a44.1)), (.va (.list (encL v10))), (.va (.list (encL v18.1))), (.va (.list (encL w21))), (.va (.int a44.2)), (.ow (encL v29)), (.ow (encL v41)), (.ow (encL v49)), .no, .no, .no, .no, .no]) (x_var rfl) rfl (asg_sb (xs := s45) (ys := v49) (v := a44.2) rfl rfl (x_idx (x_varS rfl) (x_var rfl) rfl rfl (i_list hv48)) rfl hv49 rfl) ?_
    obtain rfl := some_inj hb47
    exact ⟨((some (.int a44.1)), (some (.int a44.2))), y_nil⟩
  obtain ⟨x51, x52⟩ := x46
  refine ex_env (e1 := [(.io (potL v18.2)), (.va (.int r1.1)), (.ow (encL r4.1)), (.va (.int r5)), (jc x51), (.va (.list (encL v10))), (.va (.list (encL v18.1))), (.va (.list (encL w21))), (jc x52), (.ow (encL v29)), (.ow (encL v41)), (.ow (encL s50)), .no, .no, .no, .no, .no]) rfl ?_
  obtain ⟨r53, hr53, H⟩ := bd_some H
  refine ex_asgO (e2 := [(.io (potL v18.2)), (.va (.int r1.1)), (.ow (encL r4.1)), (.va (.int r5)), (jc x51), (.va (.list (encL v10))), (.va (.list (encL v18.1))), (.va (.list (encL w21))), (jc x52), (.ow (encL v29)), (.ow (encL v41)), (.va (.list (encL s50))), (.ow (encL r53)), .no, .no, .no, .no]) (x_callL (ds := [(.list (encL s50))]) (as := [(.list (encL s50))]) (e3 := [(.io (potL v18.2)), (.va (.int r1.1)), (.ow (encL r4.1)), (.va (.int r5)), (jc x51), (.va (.list (encL v10))), (.va (.list (encL v18.1))), (.va (.list (encL w21))), (jc x52), (.ow (encL v29)), (.ow (encL v41)), (.va (.list (encL s50))), .no, .no, .no, .no, .no]) gam10 (xs_cons (x_varS rfl) xs_nil) xs_nil rfl rfl (RO_at (t := ((Sq.mk false s50), ())) hr53)) rfl rfl ?_
  obtain ⟨g54, H⟩ := gd_some H
  obtain ⟨g56, H⟩ := gd_some H
  obtain ⟨v59, hv59, H⟩ := bd_some H
  have cv59 : evE Γ (.comp (.idx (.var 12) (.idx (.var 10) (.var 4))) (.nm 4) (.rng (.cons (.var 3) .nil)) .nil [4]) [(.io (potL v18.2)), (.va (.int r1.1)), (.ow (encL r4.1)), (.va (.int r5)), (jc x51), (.va (.list (encL v10))), (.va (.list (encL v18.1))), (.va (.list (encL w21))), (jc x52), (.ow (encL v29)), (.ow (encL v41)), (.va (.list (encL s50))), (.ow (encL r53)), .no, .no, .no, .no] = some (.ow (encL v59), [(.io (potL v18.2)), (.va (.int r1.1)), (.ow (encL r4.1)), (.va (.int r5)), (jc x51), (.va (.list (encL v10))), (.va (.list (encL v18.1))), (.va (.list (encL w21))), (jc x52), (.ow (encL v29)), (.ow (encL v41)), (.va (.list (encL s50))), (.ow (encL r53)), .no, .no, .no, .no]) := by
    refine x_compM (W := [(.io (potL v18.2)), (.va (.int r1.1)), (.ow (encL r4.1)), (.va (.int r5)), .no, (.va (.list (encL v10))), (.va (.list (encL v18.1))), (.va (.list (encL w21))), (jc x52), (.ow (encL v29)), (.ow (encL v41)), (.va (.list (encL s50))), (.ow (encL r53)), .no, .no, .no, .no]) (xr_rngL (ds := [(.int r5)]) (xs_cons (x_var rfl) xs_nil) rfl (r_1 g54)) g56 hv59 rfl (fun a55 y hy => ?_) (by cases x51 <;> rfl)
    obtain ⟨v57, hv57, hy⟩ := bd_some hy
    obtain ⟨v58, hv58, hy⟩ := bd_some hy
    obtain rfl := some_inj hy
    exact ⟨_, _, _, _, rfl, (x_idx (x_varS rfl) (x_idx (x_varS rfl) (x_var rfl) rfl rfl (i_list hv57)) rfl rfl (i_list hv58)), rfl, rfl⟩
  obtain ⟨g60, H⟩ := gd_some H
  obtain rfl := some_inj H
  exact ⟨_, y_rt (y_retV (x_to (x_cmp cv59 (x_varS rfl) rfl rfl (c_eqL v59 v29)) (dec_T g60)))⟩)
set_option maxHeartbeats 2000000 in
theorem do15 : Does (IV (fun q : Pot × Unit => t__law_great_right q.1)) Γ true 3 ir15 := IV_of (fun q r H => by
  obtain ⟨a_0, ⟨⟩⟩ := q
  replace H : t__law_great_right a_0 = some r := H
  unfold t__law_great_right at H
  refine f_runI (env := [(.io (potL a_0)), .no, .no]) rfl ?_
  obtain ⟨r1, hr1, H⟩ := bd_some H
  obtain ⟨r2, hr2, H⟩ := bd_some H
  obtain ⟨r3, hr3, H⟩ := bd_some H
  refine ex_asgO (e2 := [(.io (potL r3.2)), (.ow (encL r3.1)), .no]) (x_callSL (ds := [(.int r2)]) (e3 := [(.io (potL r3.2)), .no, .no]) gam3 (xs_cons (x_varI rfl) (xs_cons (x_callV (ds := [(.int ((7:Int) + r1.1))]) (as := [(.int ((7:Int) + r1.1))]) (e3 := [(.io (potL r1.2)), .no, .no]) gam4 (xs_cons (x_binV x_cst (x_callSI (ds := [(.int (3:Int))]) (e3 := [(.io (potL r1.2)), .no, .no]) gam1 (xs_cons (x_varI rfl) (xs_cons x_cst xs_nil)) rfl rfl rfl (IV_at (p := a_0) (t := ((3:Int), ())) hr1) rfl) rfl rfl b_add) xs_nil) xs_nil rfl rfl (RV_at (t := (((7:Int) + r1.1), ())) hr2)) xs_nil)) rfl rfl rfl (IO_at (p := r1.2) (t := (r2, ())) hr3) rfl) rfl rfl ?_
  obtain ⟨r4, hr4, H⟩ := bd_some H
  refine ex_asgO (e2 := [(.io (potL r3.2)), (.ow (encL r3.1)), (.ow (encL r4))]) (x_callL (ds := [(.list (encL r3.1))]) (as := [(.list (encL r3.1))]) (e3 := [(.io (potL r3.2)), (.ow (encL r3.1)), .no]) gam10 (xs_cons (x_biO (ds := [(.list (encL r3.1))]) (xs_cons (x_varS rfl) xs_nil) rfl l_list) xs_nil) xs_nil rfl rfl (RO_at (t := ((Sq.mk false r3.1), ())) hr4)) rfl rfl ?_
  obtain ⟨v5, hv5, H⟩ := bd_some H
  obtain ⟨g6, H⟩ := gd_some H
  obtain ⟨v7, hv7, H⟩ := bd_some H
  obtain ⟨v8, hv8, H⟩ := bd_some H
  obtain ⟨g9, H⟩ := gd_some H
  obtain ⟨r10, hr10, H⟩ := bd_some H
  obtain ⟨g11, H⟩ := gd_some H
  obtain ⟨r12, hr12, H⟩ := bd_some H
  obtain ⟨r13, hr13, H⟩ := bd_some H
  obtain ⟨g14, H⟩ := gd_some H
  obtain rfl := some_inj H
  exact ⟨_, y_rt (y_retV (x_andT (x_to (x_cmp (x_idx (x_varS rfl) (x_neg x_cst) rfl rfl (i_list hv5)) (x_biV (ds := [(.list (encL r3.1))]) (xs_cons (x_varS rfl) xs_nil) rfl l_sum) rfl rfl c_eq) (dcd_T g6)) (x_andT (x_to (x_cmp (x_idx (x_varS rfl) x_cst rfl rfl (i_list hv7)) (x_idx (x_varS rfl) x_cst rfl rfl (i_list hv8)) rfl rfl c_eq) (dcd_T g9)) (x_andT (x_to (x_cmp (x_callL (ds := [(.list (encL r4))]) (as := [(.list (encL r4))]) (e3 := [(.io (potL r3.2)), (.ow (encL r3.1)), (.va (.list (encL r4)))]) gam11 (xs_cons (x_varS rfl) xs_nil) xs_nil rfl rfl (RO_at (t := ((Sq.mk false r4), ())) hr10)) (x_varS rfl) rfl rfl (c_eqL r10 r3.1)) (dec_T g11)) (x_to (x_cmp (x_callL (ds := [(.list (encL r12))]) (as := [(.list (encL r12))]) (e3 := [(.io (potL r3.2)), (.ow (encL r3.1)), (.va (.list (encL r4)))]) gam10 (xs_cons (x_callL (ds := [(.list (encL r3.1))]) (as := [(.list (encL r3.1))]) (e3 := [(.io (potL r3.2)), (.ow (encL r3.1)), (.va (.list (encL r4)))]) gam11 (xs_cons (x_biO (ds := [(.list (encL r3.1))]) (xs_cons (x_varS rfl) xs_nil) rfl l_list) xs_nil) xs_nil rfl rfl (RO_at (t := ((Sq.mk false r3.1), ())) hr12)) xs_nil) xs_nil rfl rfl (RO_at (t := ((Sq.mk false r12), ())) hr13)) (x_varS rfl) rfl rfl (c_eqL r13 r3.1)) (dec_T g14))))))⟩)
set_option maxHeartbeats 2000000 in
theorem do16 : Does (RV (fun q : Scr × Unit => t_law q.1)) Γ false 3 ir16 := RV_of (fun q r H => by
  obtain ⟨a_0, ⟨⟩⟩ := q
  replace H : t_law a_0 = some r := H
  unfold t_law at H
  refine f_run (env := [(.va (scrD a_0.l)), .no, .no]) rfl ?_
  obtain ⟨r1, hr1, H⟩ := bd_some H
  obtain ⟨r2, hr2, H⟩ := bd_some H
  refine ex_par (e4 := [(.va (scrD a_0.l)), (.ow (potL r1)), (.ow (potL r2))]) (xs_cons (x_callL (ds := [(scrD a_0.l), (.int (0:Int))]) (as := [(scrD a_0.l), (.int (0:Int))]) (e3 := [(.va (scrD a_0.l)), .no, .no]) gam0 (xs_cons (x_var rfl) (xs_cons x_cst xs_nil)) xs_nil rfl rfl (RP_at (t := (a_0, ((0:Int), ()))) hr1)) (xs_cons (x_callL (ds := [(scrD a_0.l), (.int (1:Int))]) (as := [(scrD a_0.l), (.int (1:Int))]) (e3 := [(.va (scrD a_0.l)), .no, .no]) gam0 (xs_cons (x_var rfl) (xs_cons x_cst xs_nil)) xs_nil rfl rfl (RP_at (t := (a_0, ((1:Int), ()))) hr2)) xs_nil)) rfl rfl rfl ?_
  obtain ⟨r3, hr3, H⟩ := bd_some H
  obtain ⟨r4, hr4, H⟩ := bd_some H
  obtain ⟨r5, hr5, H⟩ := bd_some H
  obtain ⟨r6, hr6, H⟩ := bd_some H
  obtain rfl := some_inj H
  exact ⟨_, y_rt (y_retV (x_andT (x_callSO (ds := [(.int (4:Int))]) (e3 := [(.va (scrD a_0.l)), (.ow (potL r3.2)), (.ow (potL r2))]) gam12 (xs_cons (x_varS rfl) (xs_cons x_cst xs_nil)) rfl rfl rfl (IV_at (p := r1) (t := ((4:Int), ())) hr3) rfl) (x_andT (x_callSO (ds := [(.int (6:Int))]) (e3 := [(.va (scrD a_0.l)), (.ow (potL r3.2)), (.ow (potL r4.2))]) gam12 (xs_cons (x_varS rfl) (xs_cons x_cst xs_nil)) rfl rfl rfl (IV_at (p := r2) (t := ((6:Int), ())) hr4) rfl) (x_andT (x_callSO (ds := []) (e3 := [(.va (scrD a_0.l)), (.ow (potL r5.2)), (.ow (potL r4.2))]) gam14 (xs_cons (x_varS rfl) xs_nil) rfl rfl rfl (IV_at (p := r3.2) (t := ()) hr5) rfl) (x_callSO (ds := []) (e3 := [(.va (scrD a_0.l)), (.ow (potL r5.2)), (.ow (potL r6.2))]) gam15 (xs_cons (x_varS rfl) xs_nil) rfl rfl rfl (IV_at (p := r4.2) (t := ()) hr6) rfl)))))⟩)
end PdK68

namespace PdK68
open PySem PySem.Spec PyProof.Rows L2 Pd
set_option maxHeartbeats 0 in
theorem all_mk {l : PySem.W.OpenLaw} {w : World} {K : PySem.W.Frag} {h : Heap} {mg : Str → Option Value} {fa : Addr} (X : K.In h) (G : h.Ns mainGlobals mg) (hfa : mg "law" = some (.ref fa))
    {f0 f1 f2 f3 f4 f5 f6 f7 f8 f9 f10 f11 f12 f13 f14 f15 f16 : Addr} {od0 an0 od1 an1 od2 an2 od3 an3 od4 an4 od5 an5 od6 an6 od7 an7 od8 an8 od9 an9 od10 an10 od11 an11 od12 an12 od13 an13 od14 an14 od15 an15 od16 an16 : Option Addr} {sl0 sl1 sl2 sl3 sl4 sl5 sl6 sl7 sl8 sl9 sl10 sl11 sl12 sl13 sl14 sl15 sl16 : Array (Option Value)} {oc0 kV0 dc0 pm0 cd0 ct0 oc1 kV1 dc1 pm1 cd1 ct1 oc2 kV2 dc2 pm2 cd2 ct2 oc3 kV3 dc3 pm3 cd3 ct3 oc4 kV4 dc4 pm4 cd4 ct4 oc5 kV5 dc5 pm5 cd5 ct5 oc6 kV6 dc6 pm6 cd6 ct6 oc7 kV7 dc7 pm7 cd7 ct7 oc8 kV8 dc8 pm8 cd8 ct8 oc9 kV9 dc9 pm9 cd9 ct9 oc10 kV10 dc10 pm10 cd10 ct10 oc11 kV11 dc11 pm11 cd11 ct11 oc12 kV12 dc12 pm12 cd12 ct12 oc13 kV13 dc13 pm13 cd13 ct13 oc14 kV14 dc14 pm14 cd14 ct14 oc15 kV15 dc15 pm15 cd15 ct15 oc16 kV16 dc16 pm16 cd16 ct16 : Value} {tk0 : Tok}
    (a0 : PySem.W.nsIn K mainGlobals "_law_pot" = some (some (.ref f0))) (l0 : K.lookup f0 = some ⟨oc0, od0, .func (PySem.W.fnOf "_law_pot" "_law_pot" (defArgs st0) (defBody st0) (defScope st0) .none kV0 dc0 pm0 an0 cd0 ct0), sl0⟩) (c0 : PySem.W.codeIn K cd0 "_law_pot" = true) (k0 : PySem.W.keepIn K (.ref f0) = true)
    (a1 : PySem.W.nsIn K mainGlobals "_law_draw" = some (some (.ref f1))) (l1 : K.lookup f1 = some ⟨oc1, od1, .func (PySem.W.fnOf "_law_draw" "_law_draw" (defArgs st1) (defBody st1) (defScope st1) .none kV1 dc1 pm1 an1 cd1 ct1), sl1⟩) (c1 : PySem.W.codeIn K cd1 "_law_draw" = true) (k1 : PySem.W.keepIn K (.ref f1) = true)
    (a2 : PySem.W.nsIn K mainGlobals "_law_pick" = some (some (.ref f2))) (l2 : K.lookup f2 = some ⟨oc2, od2, .func (PySem.W.fnOf "_law_pick" "_law_pick" (defArgs st2) (defBody st2) (defScope st2) .none kV2 dc2 pm2 an2 cd2 ct2), sl2⟩) (c2 : PySem.W.codeIn K cd2 "_law_pick" = true) (k2 : PySem.W.keepIn K (.ref f2) = true)
    (a3 : PySem.W.nsIn K mainGlobals "_law_numbers" = some (some (.ref f3))) (l3 : K.lookup f3 = some ⟨oc3, od3, .func (PySem.W.fnOf "_law_numbers" "_law_numbers" (defArgs st3) (defBody st3) (defScope st3) .none kV3 dc3 pm3 an3 cd3 ct3), sl3⟩) (c3 : PySem.W.codeIn K cd3 "_law_numbers" = true) (k3 : PySem.W.keepIn K (.ref f3) = true)
    (a4 : PySem.W.nsIn K mainGlobals "_law_doubled" = some (some (.ref f4))) (l4 : K.lookup f4 = some ⟨oc4, od4, .func (PySem.W.fnOf "_law_doubled" "_law_doubled" (defArgs st4) (defBody st4) (defScope st4) .none kV4 dc4 pm4 an4 cd4 ct4), sl4⟩) (c4 : PySem.W.codeIn K cd4 "_law_doubled" = true) (k4 : PySem.W.keepIn K (.ref f4) = true)
    (a5 : PySem.W.nsIn K mainGlobals "_law_lot" = some (some (.ref f5))) (l5 : K.lookup f5 = some ⟨oc5, od5, .func (PySem.W.fnOf "_law_lot" "_law_lot" (defArgs st5) (defBody st5) (defScope st5) .none kV5 dc5 pm5 an5 cd5 ct5), sl5⟩) (c5 : PySem.W.codeIn K cd5 "_law_lot" = true) (k5 : PySem.W.keepIn K (.ref f5) = true)
    (a6 : PySem.W.nsIn K mainGlobals "is_list" = some (some (.ref f6))) (l6 : K.lookup f6 = some ⟨oc6, od6, .func (PySem.W.fnOf "is_list" "is_list" (defArgs st6) (defBody st6) (defScope st6) .none kV6 dc6 pm6 an6 cd6 ct6), sl6⟩) (c6 : PySem.W.codeIn K cd6 "is_list" = true) (k6 : PySem.W.keepIn K (.ref f6) = true)
    (a7 : PySem.W.nsIn K mainGlobals "is_integer" = some (some (.ref f7))) (l7 : K.lookup f7 = some ⟨oc7, od7, .func (PySem.W.fnOf "is_integer" "is_integer" (defArgs st7) (defBody st7) (defScope st7) .none kV7 dc7 pm7 an7 cd7 ct7), sl7⟩) (c7 : PySem.W.codeIn K cd7 "is_integer" = true) (k7 : PySem.W.keepIn K (.ref f7) = true)
    (a8 : PySem.W.nsIn K mainGlobals "want_lot_numbers" = some (some (.ref f8))) (l8 : K.lookup f8 = some ⟨oc8, od8, .func (PySem.W.fnOf "want_lot_numbers" "want_lot_numbers" (defArgs st8) (defBody st8) (defScope st8) .none kV8 dc8 pm8 an8 cd8 ct8), sl8⟩) (c8 : PySem.W.codeIn K cd8 "want_lot_numbers" = true) (k8 : PySem.W.keepIn K (.ref f8) = true)
    (a9 : PySem.W.nsIn K mainGlobals "over_lots" = some (some (.ref f9))) (l9 : K.lookup f9 = some ⟨oc9, od9, .func (PySem.W.fnOf "over_lots" "over_lots" (defArgs st9) (defBody st9) (defScope st9) .none kV9 dc9 pm9 an9 cd9 ct9), sl9⟩) (c9 : PySem.W.codeIn K cd9 "over_lots" = true) (k9 : PySem.W.keepIn K (.ref f9) = true)
    (a10 : PySem.W.nsIn K mainGlobals "lots_summed" = some (some (.ref f10))) (l10 : K.lookup f10 = some ⟨oc10, od10, .func (PySem.W.fnOf "lots_summed" "lots_summed" (defArgs st10) (defBody st10) (defScope st10) .none kV10 dc10 pm10 an10 cd10 ct10), sl10⟩) (c10 : PySem.W.codeIn K cd10 "lots_summed" = true) (k10 : PySem.W.keepIn K (.ref f10) = true)
    (a11 : PySem.W.nsIn K mainGlobals "lots_taken_back" = some (some (.ref f11))) (l11 : K.lookup f11 = some ⟨oc11, od11, .func (PySem.W.fnOf "lots_taken_back" "lots_taken_back" (defArgs st11) (defBody st11) (defScope st11) .none kV11 dc11 pm11 an11 cd11 ct11), sl11⟩) (c11 : PySem.W.codeIn K cd11 "lots_taken_back" = true) (k11 : PySem.W.keepIn K (.ref f11) = true)
    (a12 : PySem.W.nsIn K mainGlobals "_law_small_right" = some (some (.ref f12))) (l12 : K.lookup f12 = some ⟨oc12, od12, .func (PySem.W.fnOf "_law_small_right" "_law_small_right" (defArgs st12) (defBody st12) (defScope st12) .none kV12 dc12 pm12 an12 cd12 ct12), sl12⟩) (c12 : PySem.W.codeIn K cd12 "_law_small_right" = true) (k12 : PySem.W.keepIn K (.ref f12) = true)
    (a13 : PySem.W.nsIn K mainGlobals "_law_mixed" = some (some (.ref f13))) (l13 : K.lookup f13 = some ⟨oc13, od13, .func (PySem.W.fnOf "_law_mixed" "_law_mixed" (defArgs st13) (defBody st13) (defScope st13) .none kV13 dc13 pm13 an13 cd13 ct13), sl13⟩) (c13 : PySem.W.codeIn K cd13 "_law_mixed" = true) (k13 : PySem.W.keepIn K (.ref f13) = true)
    (a14 : PySem.W.nsIn K mainGlobals "_law_marks_right" = some (some (.ref f14))) (l14 : K.lookup f14 = some ⟨oc14, od14, .func (PySem.W.fnOf "_law_marks_right" "_law_marks_right" (defArgs st14) (defBody st14) (defScope st14) .none kV14 dc14 pm14 an14 cd14 ct14), sl14⟩) (c14 : PySem.W.codeIn K cd14 "_law_marks_right" = true) (k14 : PySem.W.keepIn K (.ref f14) = true)
    (a15 : PySem.W.nsIn K mainGlobals "_law_great_right" = some (some (.ref f15))) (l15 : K.lookup f15 = some ⟨oc15, od15, .func (PySem.W.fnOf "_law_great_right" "_law_great_right" (defArgs st15) (defBody st15) (defScope st15) .none kV15 dc15 pm15 an15 cd15 ct15), sl15⟩) (c15 : PySem.W.codeIn K cd15 "_law_great_right" = true) (k15 : PySem.W.keepIn K (.ref f15) = true)
    (a16 : PySem.W.nsIn K mainGlobals "law" = some (some (.ref f16))) (l16 : K.lookup f16 = some ⟨oc16, od16, .func (PySem.W.fnOf "law" "law" (defArgs st16) (defBody st16) (defScope st16) .none kV16 dc16 pm16 an16 cd16 ct16), sl16⟩) (c16 : PySem.W.codeIn K cd16 "law" = true) (k16 : PySem.W.keepIn K (.ref f16) = true)
    (z0 : PySem.W.nsIn K mainGlobals "len" = some none)
    (z1 : PySem.W.nsIn K mainGlobals "sum" = some none)
    (z2 : PySem.W.nsIn K mainGlobals "max" = some none)
    (z3 : PySem.W.nsIn K mainGlobals "min" = some none)
    (z4 : PySem.W.nsIn K mainGlobals "abs" = some none)
    (z5 : PySem.W.nsIn K mainGlobals "int" = some none)
    (z6 : PySem.W.nsIn K mainGlobals "list" = some none)
    (z7 : PySem.W.nsIn K mainGlobals "tuple" = some none)
    (z8 : PySem.W.nsIn K mainGlobals "all" = some none)
    (z9 : PySem.W.nsIn K mainGlobals "any" = some none)
    (z10 : PySem.W.nsIn K mainGlobals "sorted" = some none)
    (z11 : PySem.W.nsIn K mainGlobals "divmod" = some none)
    (z12 : PySem.W.nsIn K mainGlobals "repr" = some none)
    (z13 : PySem.W.nsIn K mainGlobals "isinstance" = some none)
    (z14 : PySem.W.nsIn K mainGlobals "bool" = some none)
    (z15 : PySem.W.nsIn K mainGlobals "str" = some none)
    (z16 : PySem.W.nsIn K mainGlobals "dict" = some none)
    (z17 : PySem.W.nsIn K mainGlobals "range" = some none)
    (z18 : PySem.W.nsIn K mainGlobals "enumerate" = some none)
    (z19 : PySem.W.nsIn K mainGlobals "zip" = some none)
    (z20 : PySem.W.nsIn K mainGlobals "set" = some none)
    (g0 : PySem.W.nsIn K mainGlobals "MOST_LOTS" = some (some (.int (512) tk0)))
    : ∃ fd : FuncData, (∀ (z : Shared) (y : Value), BindsTo z fd ⟨[y], []⟩ [("script", y)]) ∧ ∀ bs : Heap, K.In bs → bs.Ns mainGlobals mg → FnD l.prog w K mg bs 17 fa fd ["script"] (spD K ⟨false, (RV (fun q : Scr × Unit => t_law q.1))⟩) := by
  have e := hfa.symm.trans (PySem.W.mg_of X G a16)
  cases e
  have bi : ∀ x ∈ bNames, mg x = none := fun x hx => by
    simp only [bNames, List.mem_cons, List.not_mem_nil, or_false] at hx
    rcases hx with rfl | rfl | rfl | rfl | rfl | rfl | rfl | rfl | rfl | rfl | rfl | rfl | rfl | rfl | rfl | rfl | rfl | rfl | rfl | rfl | rfl
    · exact PySem.W.mg_none_of X G z0
    · exact PySem.W.mg_none_of X G z1
    · exact PySem.W.mg_none_of X G z2
    · exact PySem.W.mg_none_of X G z3
    · exact PySem.W.mg_none_of X G z4
    · exact PySem.W.mg_none_of X G z5
    · exact PySem.W.mg_none_of X G z6
    · exact PySem.W.mg_none_of X G z7
    · exact PySem.W.mg_none_of X G z8
    · exact PySem.W.mg_none_of X G z9
    · exact PySem.W.mg_none_of X G z10
    · exact PySem.W.mg_none_of X G z11
    · exact PySem.W.mg_none_of X G z12
    · exact PySem.W.mg_none_of X G z13
    · exact PySem.W.mg_none_of X G z14
    · exact PySem.W.mg_none_of X G z15
    · exact PySem.W.mg_none_of X G z16
    · exact PySem.W.mg_none_of X G z17
    · exact PySem.W.mg_none_of X G z18
    · exact PySem.W.mg_none_of X G z19
    · exact PySem.W.mg_none_of X G z20
  have gl : GAll K mg glb := ⟨⟨.int (512), _, PySem.W.mg_of X G g0, ⟨_, rfl⟩, fun _ => .int _⟩, trivial⟩
  have U0 := fun_mk (st := st0) l0 c0 k0
  have B0 : BAll K (PySem.W.fnOf "_law_pot" "_law_pot" (defArgs st0) (defBody st0) (defScope st0) .none kV0 dc0 pm0 an0 cd0 ct0) F0.ps F0.shapes := ⟨bindsD_mk U0 fun _ _ _ _ _ _ us ws hu hw => match us, ws, hu, hw with | [_, _], [], _, _ => rfl, trivial⟩
  have U1 := fun_mk (st := st1) l1 c1 k1
  have B1 : BAll K (PySem.W.fnOf "_law_draw" "_law_draw" (defArgs st1) (defBody st1) (defScope st1) .none kV1 dc1 pm1 an1 cd1 ct1) F1.ps F1.shapes := ⟨bindsD_mk U1 fun _ _ _ _ _ _ us ws hu hw => match us, ws, hu, hw with | [_, _], [], _, _ => rfl, trivial⟩
  have U2 := fun_mk (st := st2) l2 c2 k2
  have B2 : BAll K (PySem.W.fnOf "_law_pick" "_law_pick" (defArgs st2) (defBody st2) (defScope st2) .none kV2 dc2 pm2 an2 cd2 ct2) F2.ps F2.shapes := ⟨bindsD_mk U2 fun _ _ _ _ _ _ us ws hu hw => match us, ws, hu, hw with | [_, _], [], _, _ => rfl, trivial⟩
  have U3 := fun_mk (st := st3) l3 c3 k3
  have B3 : BAll K (PySem.W.fnOf "_law_numbers" "_law_numbers" (defArgs st3) (defBody st3) (defScope st3) .none kV3 dc3 pm3 an3 cd3 ct3) F3.ps F3.shapes := ⟨bindsD_mk U3 fun _ _ _ _ _ _ us ws hu hw => match us, ws, hu, hw with | [_, _], [], _, _ => rfl, trivial⟩
  have U4 := fun_mk (st := st4) l4 c4 k4
  have B4 : BAll K (PySem.W.fnOf "_law_doubled" "_law_doubled" (defArgs st4) (defBody st4) (defScope st4) .none kV4 dc4 pm4 an4 cd4 ct4) F4.ps F4.shapes := ⟨bindsD_mk U4 fun _ _ _ _ _ _ us ws hu hw => match us, ws, hu, hw with | [_], [], _, _ => rfl, trivial⟩
  have U5 := fun_mk (st := st5) l5 c5 k5
  have B5 : BAll K (PySem.W.fnOf "_law_lot" "_law_lot" (defArgs st5) (defBody st5) (defScope st5) .none kV5 dc5 pm5 an5 cd5 ct5) F5.ps F5.shapes := ⟨bindsD_mk U5 fun _ _ _ _ _ _ us ws hu hw => match us, ws, hu, hw with | [_, _], [], _, _ => rfl, trivial⟩
  have U6 := fun_mk (st := st6) l6 c6 k6
  have B6 : BAll K (PySem.W.fnOf "is_list" "is_list" (defArgs st6) (defBody st6) (defScope st6) .none kV6 dc6 pm6 an6 cd6 ct6) F6.ps F6.shapes := ⟨bindsD_mk U6 fun _ _ _ _ _ _ us ws hu hw => match us, ws, hu, hw with | [_], [], _, _ => rfl, trivial⟩
  have U7 := fun_mk (st := st7) l7 c7 k7
  have B7 : BAll K (PySem.W.fnOf "is_integer" "is_integer" (defArgs st7) (defBody st7) (defScope st7) .none kV7 dc7 pm7 an7 cd7 ct7) F7.ps F7.shapes := ⟨bindsD_mk U7 fun _ _ _ _ _ _ us ws hu hw => match us, ws, hu, hw with | [_], [], _, _ => rfl, trivial⟩
  have U8 := fun_mk (st := st8) l8 c8 k8
  have B8 : BAll K (PySem.W.fnOf "want_lot_numbers" "want_lot_numbers" (defArgs st8) (defBody st8) (defScope st8) .none kV8 dc8 pm8 an8 cd8 ct8) F8.ps F8.shapes := ⟨bindsD_mk U8 fun _ _ _ _ _ _ us ws hu hw => match us, ws, hu, hw with | [_], [], _, _ => rfl, trivial⟩
  have U9 := fun_mk (st := st9) l9 c9 k9
  have B9 : BAll K (PySem.W.fnOf "over_lots" "over_lots" (defArgs st9) (defBody st9) (defScope st9) .none kV9 dc9 pm9 an9 cd9 ct9) F9.ps F9.shapes := ⟨bindsD_mk U9 fun _ _ _ _ _ _ us ws hu hw => match us, ws, hu, hw with | [_, _], [], _, _ => rfl, trivial⟩
  have U10 := fun_mk (st := st10) l10 c10 k10
  have B10 : BAll K (PySem.W.fnOf "lots_summed" "lots_summed" (defArgs st10) (defBody st10) (defScope st10) .none kV10 dc10 pm10 an10 cd10 ct10) F10.ps F10.shapes := ⟨bindsD_mk U10 fun _ _ _ _ _ _ us ws hu hw => match us, ws, hu, hw with | [_], [], _, _ => rfl, bindsD_mk U10 fun _ _ _ _ _ _ us ws hu hw => match us, ws, hu, hw with | [], [_], _, _ => rfl, trivial⟩
  have U11 := fun_mk (st := st11) l11 c11 k11
  have B11 : BAll K (PySem.W.fnOf "lots_taken_back" "lots_taken_back" (defArgs st11) (defBody st11) (defScope st11) .none kV11 dc11 pm11 an11 cd11 ct11) F11.ps F11.shapes := ⟨bindsD_mk U11 fun _ _ _ _ _ _ us ws hu hw => match us, ws, hu, hw with | [_], [], _, _ => rfl, bindsD_mk U11 fun _ _ _ _ _ _ us ws hu hw => match us, ws, hu, hw with | [], [_], _, _ => rfl, trivial⟩
  have U12 := fun_mk (st := st12) l12 c12 k12
  have B12 : BAll K (PySem.W.fnOf "_law_small_right" "_law_small_right" (defArgs st12) (defBody st12) (defScope st12) .none kV12 dc12 pm12 an12 cd12 ct12) F12.ps F12.shapes := ⟨bindsD_mk U12 fun _ _ _ _ _ _ us ws hu hw => match us, ws, hu, hw with | [_, _], [], _, _ => rfl, trivial⟩
  have U13 := fun_mk (st := st13) l13 c13 k13
  have B13 : BAll K (PySem.W.fnOf "_law_mixed" "_law_mixed" (defArgs st13) (defBody st13) (defScope st13) .none kV13 dc13 pm13 an13 cd13 ct13) F13.ps F13.shapes := ⟨bindsD_mk U13 fun _ _ _ _ _ _ us ws hu hw => match us, ws, hu, hw with | [_, _], [], _, _ => rfl, trivial⟩
  have U14 := fun_mk (st := st14) l14 c14 k14
  have B14 : BAll K (PySem.W.fnOf "_law_marks_right" "_law_marks_right" (defArgs st14) (defBody st14) (defScope st14) .none kV14 dc14 pm14 an14 cd14 ct14) F14.ps F14.shapes := ⟨bindsD_mk U14 fun _ _ _ _ _ _ us ws hu hw => match us, ws, hu, hw with | [_], [], _, _ => rfl, trivial⟩
  have U15 := fun_mk (st := st15) l15 c15 k15
  have B15 : BAll K (PySem.W.fnOf "_law_great_right" "_law_great_right" (defArgs st15) (defBody st15) (defScope st15) .none kV15 dc15 pm15 an15 cd15 ct15) F15.ps F15.shapes := ⟨bindsD_mk U15 fun _ _ _ _ _ _ us ws hu hw => match us, ws, hu, hw with | [_], [], _, _ => rfl, trivial⟩
  have U16 := fun_mk (st := st16) l16 c16 k16
  have B16 : BAll K (PySem.W.fnOf "law" "law" (defArgs st16) (defBody st16) (defScope st16) .none kV16 dc16 pm16 an16 cd16 ct16) F16.ps F16.shapes := trivial
  refine ⟨PySem.W.fnOf "law" "law" (defArgs st16) (defBody st16) (defScope st16) .none kV16 dc16 pm16 an16 cd16 ct16, fun z y => .of_eq rfl, fun bs _ _ => ?_⟩
  have G0 : GI l.prog w K mg bs Γ 0 C0.fns C0.glb := GI.start bi gl
  have G1 : GI l.prog w K mg bs Γ 1 C1.fns C1.glb := (GI.step (g := F0) G0 U0 sc0 rfl cs0 do0 RP_len gam0 (PySem.W.mg_of X G a0) B0).2
  have G2 : GI l.prog w K mg bs Γ 2 C2.fns C2.glb := (GI.step (g := F1) G1 U1 sc1 rfl cs1 do1 IV_len gam1 (PySem.W.mg_of X G a1) B1).2
  have G3 : GI l.prog w K mg bs Γ 3 C3.fns C3.glb := (GI.step (g := F2) G2 U2 sc2 rfl cs2 do2 IV_len gam2 (PySem.W.mg_of X G a2) B2).2
  have G4 : GI l.prog w K mg bs Γ 4 C4.fns C4.glb := (GI.step (g := F3) G3 U3 sc3 rfl cs3 do3 IO_len gam3 (PySem.W.mg_of X G a3) B3).2
  have G5 : GI l.prog w K mg bs Γ 5 C5.fns C5.glb := (GI.step (g := F4) G4 U4 sc4 rfl cs4 do4 RV_len gam4 (PySem.W.mg_of X G a4) B4).2
  have G6 : GI l.prog w K mg bs Γ 6 C6.fns C6.glb := (GI.step (g := F5) G5 U5 sc5 rfl cs5 do5 RV_len gam5 (PySem.W.mg_of X G a5) B5).2
  have G7 : GI l.prog w K mg bs Γ 7 C7.fns C7.glb := (GI.step (g := F6) G6 U6 sc6 rfl cs6 do6 RV_len gam6 (PySem.W.mg_of X G a6) B6).2
  have G8 : GI l.prog w K mg bs Γ 8 C8.fns C8.glb := (GI.step (g := F7) G7 U7 sc7 rfl cs7 do7 RV_len gam7 (PySem.W.mg_of X G a7) B7).2
  have G9 : GI l.prog w K mg bs Γ 9 C9.fns C9.glb := (GI.step (g := F8) G8 U8 sc8 rfl cs8 do8 RV_len gam8 (PySem.W.mg_of X G a8) B8).2
  have G10 : GI l.prog w K mg bs Γ 10 C10.fns C10.glb := (GI.step (g := F9) G9 U9 sc9 rfl cs9 do9 RO_len gam9 (PySem.W.mg_of X G a9) B9).2
  have G11 : GI l.prog w K mg bs Γ 11 C11.fns C11.glb := (GI.step (g := F10) G10 U10 sc10 rfl cs10 do10 RO_len gam10 (PySem.W.mg_of X G a10) B10).2
  have G12 : GI l.prog w K mg bs Γ 12 C12.fns C12.glb := (GI.step (g := F11) G11 U11 sc11 rfl cs11 do11 RO_len gam11 (PySem.W.mg_of X G a11) B11).2
  have G13 : GI l.prog w K mg bs Γ 13 C13.fns C13.glb := (GI.step (g := F12) G12 U12 sc12 rfl cs12 do12 IV_len gam12 (PySem.W.mg_of X G a12) B12).2
  have G14 : GI l.prog w K mg bs Γ 14 C14.fns C14.glb := (GI.step (g := F13) G13 U13 sc13 rfl cs13 do13 IO_len gam13 (PySem.W.mg_of X G a13) B13).2
  have G15 : GI l.prog w K mg bs Γ 15 C15.fns C15.glb := (GI.step (g := F14) G14 U14 sc14 rfl cs14 do14 IV_len gam14 (PySem.W.mg_of X G a14) B14).2
  have G16 : GI l.prog w K mg bs Γ 16 C16.fns C16.glb := (GI.step (g := F15) G15 U15 sc15 rfl cs15 do15 IV_len gam15 (PySem.W.mg_of X G a15) B15).2
  exact (GI.step (g := F16) G16 U16 sc16 rfl cs16 do16 RV_len gam16 (PySem.W.mg_of X G a16) B16).1
end PdK68

open PySem PySem.W PyProof.Rows
set_option maxHeartbeats 0 in
theorem PySem.Challenge.cw_twowaycounts_k68_whole_sums_over_lots_holds : PySem.Challenge.rw_twowaycounts_k68_whole_sums_over_lots.Holds := by
  w_on; o_law; k_head; (case hw => w_witness2)
  k_fill
  refine Pd.walkD (l := PySem.Challenge.rw_twowaycounts_k68_whole_sums_over_lots) (n := 63) (lv := 17) (nm := "script") (g := ⟨false, (Pd.RV (fun q : Pd.Scr × Unit => PdK68.t_law q.1))⟩) rfl (by decide) rfl ⟨rfl, by decide, by decide⟩ rfl (fun w h Y => PySem.W.kIn_of Y) ?F rfl (fun ns hl => PdK68.run_law ns hl)
  case F =>
    intro w gl fa h KX G hgl
    refine' PdK68.all_mk KX G hgl ?a0 ?l0 ?c0 ?k0 ?a1 ?l1 ?c1 ?k1 ?a2 ?l2 ?c2 ?k2 ?a3 ?l3 ?c3 ?k3 ?a4 ?l4 ?c4 ?k4 ?a5 ?l5 ?c5 ?k5 ?a6 ?l6 ?c6 ?k6 ?a7 ?l7 ?c7 ?k7 ?a8 ?l8 ?c8 ?k8 ?a9 ?l9 ?c9 ?k9 ?a10 ?l10 ?c10 ?k10 ?a11 ?l11 ?c11 ?k11 ?a12 ?l12 ?c12 ?k12 ?a13 ?l13 ?c13 ?k13 ?a14 ?l14 ?c14 ?k14 ?a15 ?l15 ?c15 ?k15 ?a16 ?l16 ?c16 ?k16 ?z0 ?z1 ?z2 ?z3 ?z4 ?z5 ?z6 ?z7 ?z8 ?z9 ?z10 ?z11 ?z12 ?z13 ?z14 ?z15 ?z16 ?z17 ?z18 ?z19 ?z20 ?gc0
    (case a0 => k_is); (case l0 => k_is); (case c0 => k_is); (case k0 => k_is); (case a1 => k_is); (case l1 => k_is); (case c1 => k_is); (case k1 => k_is); (case a2 => k_is); (case l2 => k_is); (case c2 => k_is); (case k2 => k_is); (case a3 => k_is); (case l3 => k_is); (case c3 => k_is); (case k3 => k_is); (case a4 => k_is); (case l4 => k_is); (case c4 => k_is); (case k4 => k_is); (case a5 => k_is); (case l5 => k_is); (case c5 => k_is); (case k5 => k_is); (case a6 => k_is); (case l6 => k_is); (case c6 => k_is); (case k6 => k_is); (case a7 => k_is); (case l7 => k_is); (case c7 => k_is); (case k7 => k_is); (case a8 => k_is); (case l8 => k_is); (case c8 => k_is); (case k8 => k_is); (case a9 => k_is); (case l9 => k_is); (case c9 => k_is); (case k9 => k_is); (case a10 => k_is); (case l10 => k_is); (case c10 => k_is); (case k10 => k_is); (case a11 => k_is); (case l11 => k_is); (case c11 => k_is); (case k11 => k_is); (case a12 => k_is); (case l12 => k_is); (case c12 => k_is); (case k12 => k_is); (case a13 => k_is); (case l13 => k_is); (case c13 => k_is); (case k13 => k_is); (case a14 => k_is); (case l14 => k_is); (case c14 => k_is); (case k14 => k_is); (case a15 => k_is); (case l15 => k_is); (case c15 => k_is); (case k15 => k_is); (case a16 => k_is); (case l16 => k_is); (case c16 => k_is); (case k16 => k_is); (case z0 => k_is); (case z1 => k_is); (case z2 => k_is); (case z3 => k_is); (case z4 => k_is); (case z5 => k_is); (case z6 => k_is); (case z7 => k_is); (case z8 => k_is); (case z9 => k_is); (case z10 => k_is); (case z11 => k_is); (case z12 => k_is); (case z13 => k_is); (case z14 => k_is); (case z15 => k_is); (case z16 => k_is); (case z17 => k_is); (case z18 => k_is); (case z19 => k_is); (case z20 => k_is); (case gc0 => k_is)

