import PyProof.Rows.All
import Wide.All
import OpenK.AllK
import Wide.FinOn
import HandS.ForMost
import HandS.Walk
import HandS.Flow
import HandS.TupAny
import HandS.ListItems
import HandS.Conv
import HandS.More
import HandS.WrittenGet
import PySem.Challenge.RW_formflow_k22_order_of_places
import HandS.Strs
set_option Elab.async false
set_option linter.all false
set_option maxRecDepth 100000
set_option maxHeartbeats 1000000
/-! The plain law: forms, kinds, issues as plain functions, and why the exchanges answer so. -/
namespace FF
open PySem

inductive Kd where
  | truth | number | option | options | text
  deriving DecidableEq
def Kd.plain : Kd → Bool
  | .truth => true | .number => true | .option => true | .options => false | .text => false
inductive Fn where
  | answered | count | sum | least | greatest | any | all
  deriving DecidableEq
inductive Sg where
  | or | and | eq | ne | lt | ge | add | sub | mul | els
  deriving DecidableEq
inductive Is where
  | twice | condition | bound | options | formula | rule
  deriving DecidableEq
/-- the expressions that are drawn -/
inductive Ex where
  | nam (x : Str) | ask (f : Fn) (x : Str) | has (x o : Str) | row | num (n : Int) | opt (o : Str)
  | not (e : Ex) | op (g : Sg) (a b : Ex) | ite (c a b : Ex)
def Ex.ht : Ex → Nat
  | .not e => e.ht + 1
  | .op _ a b => max a.ht b.ht + 1
  | .ite c a b => max c.ht (max a.ht b.ht) + 1
  | _ => 0
def namesE : Ex → List Str
  | .nam x => [x] | .ask _ x => [x] | .has x _ => [x]
  | .not e => namesE e
  | .op _ a b => namesE a ++ namesE b
  | .ite c a b => namesE c ++ (namesE a ++ namesE b)
  | _ => []
structure Sc where
  names : Str → Option Kd
  over : Str → Option Kd
  secs : Str → Bool
  row : Bool
def opM (g : Sg) (a b : Option Kd) : Option Kd :=
  match g with
  | .or => if a = some .truth ∧ b = some .truth then some .truth else none
  | .and => if a = some .truth ∧ b = some .truth then some .truth else none
  | .add => if a = some .number ∧ b = some .number then some .number else none
  | .sub => if a = some .number ∧ b = some .number then some .number else none
  | .mul => if a = some .number ∧ b = some .number then some .number else none
  | .lt => if a = some .number ∧ b = some .number then some .truth else none
  | .ge => if a = some .number ∧ b = some .number then some .truth else none
  | .eq => if a = none ∨ a ≠ b then none else some .truth
  | .ne => if a = none ∨ a ≠ b then none else some .truth
  | .els => if a = none ∨ a ≠ b then none else a
def askM (s : Sc) (f : Fn) (x : Str) : Option Kd :=
  match f with
  | .answered => if (s.names x).isSome = true then some .truth else none
  | .count => if s.secs x = true then some .number else none
  | .any => if s.over x = some .truth then some .truth else none
  | .all => if s.over x = some .truth then some .truth else none
  | .sum => if s.over x = some .number then some .number else none
  | .least => if s.over x = some .number then some .number else none
  | .greatest => if s.over x = some .number then some .number else none
def kindN (o : Option Kd) : Option Kd := match o with
  | some k => if k.plain = true then some k else none
  | none => none
def kindM (s : Sc) : Ex → Option Kd
  | .nam x => kindN (s.names x)
  | .ask f x => askM s f x
  | .has x _ => if s.names x = some .options then some .truth else none
  | .row => if s.row = true then some .number else none
  | .num _ => some .number
  | .opt _ => some .option
  | .not e => if kindM s e = some .truth then some .truth else none
  | .op g a b => opM g (kindM s a) (kindM s b)
  | .ite c a b => if kindM s c = some .truth ∧ kindM s a = kindM s b then kindM s a else none
/-- what a scope knows of a name -/
def Av (s : Sc) (x : Str) : Prop := s.names x ≠ none ∨ s.over x ≠ none ∨ s.secs x = true

theorem opM_some {g : Sg} {a b : Option Kd} (h : opM g a b ≠ none) : a ≠ none ∧ b ≠ none := by
  revert h
  cases g <;> cases a <;> cases b <;> simp [opM]
/-- L1 -/
theorem av_of (s : Sc) : ∀ e : Ex, kindM s e ≠ none → ∀ x ∈ namesE e, Av s x
  | .nam y, h, x, hx => by
    have e : x = y := by simpa [namesE] using hx
    subst e
    refine .inl fun q => h ?_
    simp [kindM, kindN, q]
  | .ask f y, h, x, hx => by
    have e : x = y := by simpa [namesE] using hx
    subst e
    cases f <;> simp only [kindM, askM] at h <;> split at h <;> first
      | exact absurd rfl h
      | (rename_i q; exact .inl fun z => by rw [z] at q; simp at q)
      | (rename_i q; exact .inr (.inr q))
      | (rename_i q; exact .inr (.inl fun z => by rw [z] at q; simp at q))
  | .has y o, h, x, hx => by
    have e : x = y := by simpa [namesE] using hx
    subst e
    simp only [kindM] at h
    split at h
    · rename_i q; exact .inl fun z => by rw [z] at q; simp at q
    · exact absurd rfl h
  | .row, _, x, hx => by simp [namesE] at hx
  | .num _, _, x, hx => by simp [namesE] at hx
  | .opt _, _, x, hx => by simp [namesE] at hx
  | .not e, h, x, hx => by
    simp only [kindM] at h
    split at h
    · rename_i q; exact av_of s e (by rw [q]; simp) x hx
    · exact absurd rfl h
  | .op g a b, h, x, hx => by
    obtain ⟨h1, h2⟩ := opM_some (by simpa [kindM] using h)
    rcases List.mem_append.mp hx with hx | hx
    · exact av_of s a h1 x hx
    · exact av_of s b h2 x hx
  | .ite c a b, h, x, hx => by
    simp only [kindM] at h
    split at h
    · rename_i q
      rcases List.mem_append.mp hx with hx | hx
      · exact av_of s c (by rw [q.1]; simp) x hx
      · rcases List.mem_append.mp hx with hx | hx
        · exact av_of s a h x hx
        · exact av_of s b (by rw [← q.2]; exact h) x hx
    · exact absurd rfl h

/-! ### questions, fields, sections -/
inductive Qk where
  | truth | integer (lo hi : Option Ex) | opts (multi : Bool) (os : List (Str × Option Ex)) | text
def Qk.kd : Qk → Kd
  | .truth => .truth | .integer _ _ => .number | .opts false _ => .option | .opts true _ => .options | .text => .text
inductive Fb where
  | q (k : Qk) (req : Bool) | fm (e : Ex) | rl (e : Ex) (bl : Bool)
structure Fld where
  name : Str
  cond : Option Ex
  body : Fb
structure Sct where
  name : Str
  cond : Option Ex
  most : Int
  fields : List Fld
abbrev Sct.rep (s : Sct) : Bool := decide (0 < s.most)
def qExprs : Qk → List Ex
  | .integer lo hi => lo.toList ++ hi.toList
  | .opts _ os => os.filterMap (·.2)
  | _ => []
def bExprs : Fb → List Ex
  | .q k _ => qExprs k
  | .fm e => [e]
  | .rl e _ => [e]
def exprsM (f : Fld) : List Ex := f.cond.toList ++ bExprs f.body
def readsF (f : Fld) : List Str := (exprsM f).flatMap namesE
def readsS (s : Sct) : List Str := s.cond.toList.flatMap namesE ++ s.fields.flatMap readsF
def isNo (s : Sc) (o : Option Ex) (k : Kd) : Bool := match o with
  | none => false
  | some e => !decide (kindM s e = some k)
def qIss (s : Sc) (n : Str) : Qk → List (Str × Is)
  | .integer lo hi => ([lo, hi].filter fun o => isNo s o .number).map fun _ => (n, Is.bound)
  | .opts _ os => (os.filter fun o => isNo s o.2 .truth).map fun _ => (n, Is.options)
  | _ => []
def bIss (s : Sc) (n : Str) : Fb → List (Str × Is)
  | .q k _ => qIss s n k
  | .fm e => if (kindM s e).any Kd.plain = true then [] else [(n, Is.formula)]
  | .rl e _ => if kindM s e = some .truth then [] else [(n, Is.rule)]
def fieldIss (s : Sc) (f : Fld) : List (Str × Is) :=
  (if isNo s f.cond .truth = true then [(f.name, Is.condition)] else []) ++ bIss s f.name f.body
def fkindM (s : Sc) (f : Fld) : Option Kd := match f.body with
  | .q k _ => some k.kd
  | .fm e => kindM s e
  | .rl _ _ => none
structure Sv where
  names : Str → Option Kd
  over : Str → Option Kd
  secs : Str → Bool
def sv0 : Sv := ⟨fun _ => none, fun _ => none, fun _ => false⟩
def fk (g : Str → Option Kd) (n : Str) (k : Option Kd) : Str → Option Kd := fun x => if x = n then (g n).or k else g x
def fks (g : Str → Option Kd) (own : List (Str × Option Kd)) : Str → Option Kd := own.foldl (fun g p => fk g p.1 p.2) g
def scopeM (sv : Sv) (row : Bool) (own : List (Str × Option Kd)) : Sc := ⟨fks sv.names own, sv.over, sv.secs, row⟩
def leaveM (sv : Sv) (s : Sct) (own : List (Str × Option Kd)) : Sv :=
  if s.rep = true then ⟨sv.names, fks sv.over own, fun x => decide (x = s.name) || sv.secs x⟩ else ⟨fks sv.names own, sv.over, sv.secs⟩
def fldsM (sv : Sv) (row : Bool) : List (Str × Option Kd) → List Fld → List (Fld × Sc)
  | _, [] => []
  | own, f :: fs => (f, scopeM sv row own) :: fldsM sv row (own ++ [(f.name, fkindM (scopeM sv row own) f)]) fs
def ownsM (sv : Sv) (row : Bool) : List (Str × Option Kd) → List Fld → List (Str × Option Kd)
  | own, [] => own
  | own, f :: fs => ownsM sv row (own ++ [(f.name, fkindM (scopeM sv row own) f)]) fs
abbrev Pl := Option Sct × Option Fld × Sc
def secPl (sv : Sv) (s : Sct) : List Pl := (some s, none, scopeM sv false []) :: (fldsM sv s.rep [] s.fields).map fun p => (some s, some p.1, p.2)
def svAfter (sv : Sv) (s : Sct) : Sv := leaveM sv s (ownsM sv s.rep [] s.fields)
def placesM (sv : Sv) : List Sct → List Pl
  | [] => [(none, none, scopeM sv false [])]
  | s :: ss => secPl sv s ++ placesM (svAfter sv s) ss
def plIss : Pl → List (Str × Is)
  | (_, some f, sc) => fieldIss sc f
  | (some s, none, sc) => if isNo sc s.cond .truth = true then [(s.name, Is.condition)] else []
  | (none, none, _) => []
def namesS (s : Sct) : List Str := s.name :: s.fields.map (·.name)
def allNames (F : List Sct) : List Str := F.flatMap namesS
def twiceM : List Str → List (Str × Is)
  | [] => []
  | x :: xs => if x ∈ xs then (x, Is.twice) :: twiceM xs else twiceM xs
def formIss (sv : Sv) (F : List Sct) : List (Str × Is) := (placesM sv F).flatMap plIss
def issuesM (F : List Sct) : List (Str × Is) := twiceM (allNames F) ++ formIss sv0 F
def secIss (sv : Sv) (s : Sct) : List (Str × Is) := (secPl sv s).flatMap plIss
def svFold (sv : Sv) (F : List Sct) : Sv := F.foldl svAfter sv

theorem formIss_cons (sv : Sv) (s : Sct) (F : List Sct) : formIss sv (s :: F) = secIss sv s ++ formIss (svAfter sv s) F := by
  simp [formIss, secIss, placesM, List.flatMap_append]
theorem formIss_app : ∀ (A B : List Sct) (sv : Sv), formIss sv (A ++ B) = formIss sv A ++ formIss (svFold sv A) B
  | [], B, sv => by simp [formIss, placesM, plIss, svFold]
  | a :: A, B, sv => by
    rw [List.cons_append, formIss_cons, formIss_cons, formIss_app A B, List.append_assoc]
    rfl
theorem formIss_nil (sv : Sv) : formIss sv [] = [] := by simp [formIss, placesM, plIss]
theorem secIss_eq (sv : Sv) (s : Sct) : secIss sv s = (if isNo (scopeM sv false []) s.cond .truth = true then [(s.name, Is.condition)] else []) ++ (fldsM sv s.rep [] s.fields).flatMap fun p => fieldIss p.2 p.1 := by
  simp only [secIss, secPl, List.flatMap_cons, List.flatMap_map, plIss]
theorem fldsM_app (sv : Sv) (row : Bool) : ∀ (A B : List Fld) (own : List (Str × Option Kd)), fldsM sv row own (A ++ B) = fldsM sv row own A ++ fldsM sv row (ownsM sv row own A) B
  | [], B, own => rfl
  | a :: A, B, own => by
    show _ :: fldsM sv row _ (A ++ B) = _
    rw [fldsM_app sv row A B]
    rfl
theorem ownsM_app (sv : Sv) (row : Bool) : ∀ (A B : List Fld) (own : List (Str × Option Kd)), ownsM sv row own (A ++ B) = ownsM sv row (ownsM sv row own A) B
  | [], B, own => rfl
  | a :: A, B, own => ownsM_app sv row A B _

/-! ### what a scope can know: names ahead alone -/
theorem fk_dom {g : Str → Option Kd} {n : Str} {k : Option Kd} {x : Str} (h : fk g n k x ≠ none) : g x ≠ none ∨ x = n := by
  unfold fk at h
  split at h
  · rename_i e; exact .inr e
  · exact .inl h
theorem fks_dom : ∀ {own : List (Str × Option Kd)} {g : Str → Option Kd} {x : Str}, fks g own x ≠ none → g x ≠ none ∨ x ∈ own.map (·.1)
  | [], g, x, h => .inl h
  | p :: own, g, x, h => by
    rcases fks_dom (own := own) (g := fk g p.1 p.2) h with q | q
    · rcases fk_dom q with q | q
      · exact .inl q
      · exact .inr (by simp [q])
    · exact .inr (by simp only [List.map_cons, List.mem_cons]; exact .inr q)
def AvV (sv : Sv) (x : Str) : Prop := sv.names x ≠ none ∨ sv.over x ≠ none ∨ sv.secs x = true
theorem av_scope {sv : Sv} {row : Bool} {own : List (Str × Option Kd)} {x : Str} (h : Av (scopeM sv row own) x) : AvV sv x ∨ x ∈ own.map (·.1) := by
  rcases h with h | h | h
  · rcases fks_dom h with q | q
    · exact .inl (.inl q)
    · exact .inr q
  · exact .inl (.inr (.inl h))
  · exact .inl (.inr (.inr h))
theorem owns_names (sv : Sv) (row : Bool) : ∀ (fs : List Fld) (own : List (Str × Option Kd)), (ownsM sv row own fs).map (·.1) = own.map (·.1) ++ fs.map (·.name)
  | [], own => by simp [ownsM]
  | f :: fs, own => by
    show (ownsM sv row _ fs).map (·.1) = _
    rw [owns_names sv row fs]
    simp
theorem avV_after {sv : Sv} {s : Sct} {x : Str} (h : AvV (svAfter sv s) x) : AvV sv x ∨ x ∈ namesS s := by
  have on : (ownsM sv s.rep [] s.fields).map (·.1) = s.fields.map (·.name) := by rw [owns_names]; rfl
  unfold svAfter leaveM at h
  split at h
  · rcases h with h | h | h
    · exact .inl (.inl h)
    · rcases fks_dom h with q | q
      · exact .inl (.inr (.inl q))
      · rw [on] at q; exact .inr (List.mem_cons_of_mem _ q)
    · have h : (decide (x = s.name) || sv.secs x) = true := h
      rw [Bool.or_eq_true] at h
      rcases h with h | h
      · exact .inr (by rw [of_decide_eq_true h]; exact List.mem_cons_self)
      · exact .inl (.inr (.inr h))
  · rcases h with h | h | h
    · rcases fks_dom h with q | q
      · exact .inl (.inl q)
      · rw [on] at q; exact .inr (List.mem_cons_of_mem _ q)
    · exact .inl (.inr (.inl h))
    · exact .inl (.inr (.inr h))
theorem avV_fold : ∀ {F : List Sct} {sv : Sv} {x : Str}, AvV (svFold sv F) x → AvV sv x ∨ x ∈ allNames F
  | [], _, _, h => .inl h
  | s :: F, sv, x, h => by
    rcases avV_fold (F := F) (sv := svAfter sv s) h with q | q
    · rcases avV_after q with q | q
      · exact .inl q
      · exact .inr (by simp only [allNames, List.flatMap_cons, List.mem_append]; exact .inl q)
    · exact .inr (by simp only [allNames, List.flatMap_cons, List.mem_append]; exact .inr q)
theorem avV_zero {x : Str} (h : AvV sv0 x) : False := by
  rcases h with h | h | h
  · exact h rfl
  · exact h rfl
  · exact Bool.noConfusion h
theorem av_ahead {F : List Sct} {row : Bool} {own : List (Str × Option Kd)} {x : Str} (h : Av (scopeM (svFold sv0 F) row own) x) : x ∈ allNames F ∨ x ∈ own.map (·.1) := by
  rcases av_scope h with q | q
  · rcases avV_fold q with q | q
    · exact (avV_zero q).elim
    · exact .inl q
  · exact .inr q

/-! ### an expression without a kind is told -/
theorem told_of_none {s : Sc} {f : Fld} {e : Ex} (he : e ∈ exprsM f) (hk : kindM s e = none) : ∃ i, (f.name, i) ∈ fieldIss s f := by
  unfold exprsM at he
  rcases List.mem_append.mp he with he | he
  · have ec : f.cond = some e := by simpa using he
    refine ⟨Is.condition, ?_⟩
    simp [fieldIss, isNo, ec, hk]
  · have more : ∀ i, (f.name, i) ∈ bIss s f.name f.body → ∃ i, (f.name, i) ∈ fieldIss s f := fun i hi => ⟨i, List.mem_append_right _ hi⟩
    cases hb : f.body with
    | q k r =>
      rw [hb] at he
      cases k with
      | truth => simp [bExprs, qExprs] at he
      | text => simp [bExprs, qExprs] at he
      | integer lo hi =>
        refine more Is.bound ?_
        rw [hb]
        have hz : lo = some e ∨ hi = some e := by simpa [bExprs, qExprs] using he
        simp only [bIss, qIss, List.mem_map, List.mem_filter]
        rcases hz with hz | hz
        · exact ⟨lo, ⟨by simp, by simp [isNo, hz, hk]⟩, trivial⟩
        · exact ⟨hi, ⟨by simp, by simp [isNo, hz, hk]⟩, trivial⟩
      | opts m os =>
        refine more Is.options ?_
        rw [hb]
        have hz : ∃ a, (a, some e) ∈ os := by simpa [bExprs, qExprs] using he
        obtain ⟨a, ha⟩ := hz
        simp only [bIss, qIss, List.mem_map, List.mem_filter]
        exact ⟨(a, some e), ⟨ha, by simp [isNo, hk]⟩, trivial⟩
    | fm e' =>
      rw [hb] at he
      have e1 : e = e' := by simpa [bExprs] using he
      subst e1
      refine more Is.formula ?_
      rw [hb]
      simp [bIss, hk]
    | rl e' b =>
      rw [hb] at he
      have e1 : e = e' := by simpa [bExprs] using he
      subst e1
      refine more Is.rule ?_
      rw [hb]
      simp [bIss, hk]
/-- a field that reads what its scope does not know is told -/
theorem told_of_reads {s : Sc} {f : Fld} {x : Str} (hx : x ∈ readsF f) (hn : ¬ Av s x) : ∃ i, (f.name, i) ∈ fieldIss s f := by
  obtain ⟨e, he, hx⟩ := List.mem_flatMap.mp hx
  refine told_of_none he ?_
  cases hk : kindM s e with
  | none => rfl
  | some k => exact absurd (av_of s e (by rw [hk]; simp) x hx) hn
theorem flds_told (sv : Sv) (row : Bool) (x : Str) (hx : ¬ AvV sv x) : ∀ (fs : List Fld) (own : List (Str × Option Kd)), x ∉ own.map (·.1) → x ∉ fs.map (·.name) → (∃ f ∈ fs, x ∈ readsF f) → (fldsM sv row own fs).flatMap (fun p => fieldIss p.2 p.1) ≠ []
  | [], own, _, _, h => by obtain ⟨f, hf, _⟩ := h; cases hf
  | f :: fs, own, ho, hn, h => by
    intro hnil
    have hnil : fieldIss (scopeM sv row own) f ++ (fldsM sv row (own ++ [(f.name, fkindM (scopeM sv row own) f)]) fs).flatMap (fun p => fieldIss p.2 p.1) = [] := hnil
    obtain ⟨h1, h2⟩ := List.append_eq_nil_iff.mp hnil
    obtain ⟨g, hg, hr⟩ := h
    rcases List.mem_cons.mp hg with e | hg
    · subst e
      obtain ⟨i, hi⟩ := told_of_reads (s := scopeM sv row own) hr fun q => by
        rcases av_scope q with q | q
        · exact hx q
        · exact ho q
      rw [h1] at hi
      cases hi
    · refine flds_told sv row x hx fs _ ?_ ?_ ⟨g, hg, hr⟩ h2
      · simp only [List.map_append, List.map_cons, List.map_nil, List.mem_append, List.mem_singleton, not_or]
        exact ⟨ho, fun z => hn (by simp [z])⟩
      · exact fun z => hn (by simp only [List.map_cons, List.mem_cons]; exact .inr z)
theorem secIss_told {sv : Sv} {s : Sct} {x : Str} (hx : ¬ AvV sv x) (hn : x ∉ namesS s) (hr : x ∈ readsS s) : secIss sv s ≠ [] := by
  rw [secIss_eq]
  intro h
  obtain ⟨h1, h2⟩ := List.append_eq_nil_iff.mp h
  rcases List.mem_append.mp hr with hr | hr
  · cases hc : s.cond with
    | none => rw [hc] at hr; cases hr
    | some e =>
      rw [hc] at hr h1
      have hr : x ∈ namesE e := by simpa using hr
      have hk : kindM (scopeM sv false []) e = none := by
        cases hk : kindM (scopeM sv false []) e with
        | none => rfl
        | some k =>
          have q := av_of _ e (by rw [hk]; simp) x hr
          rcases av_scope q with q | q
          · exact absurd q hx
          · cases q
      simp [isNo, hk] at h1
  · obtain ⟨f, hf, hr⟩ := List.mem_flatMap.mp hr
    exact flds_told sv s.rep x hx s.fields [] (by simp) (fun q => hn (List.mem_cons_of_mem _ q)) ⟨f, hf, hr⟩ h2

/-! ### typed expressions, over lists of what is known -/
structure Ts where
  N : List (Str × Kd)
  O : List (Str × Kd)
  S : List Str
  r : Bool
inductive Ty (t : Ts) : Kd → Ex → Prop where
  | nam {x k} : (x, k) ∈ t.N → k.plain = true → Ty t k (.nam x)
  | answered {x k} : (x, k) ∈ t.N → Ty t .truth (.ask .answered x)
  | count {x} : x ∈ t.S → Ty t .number (.ask .count x)
  | sum {x} : (x, Kd.number) ∈ t.O → Ty t .number (.ask .sum x)
  | least {x} : (x, Kd.number) ∈ t.O → Ty t .number (.ask .least x)
  | greatest {x} : (x, Kd.number) ∈ t.O → Ty t .number (.ask .greatest x)
  | any {x} : (x, Kd.truth) ∈ t.O → Ty t .truth (.ask .any x)
  | all {x} : (x, Kd.truth) ∈ t.O → Ty t .truth (.ask .all x)
  | has {x o} : (x, Kd.options) ∈ t.N → Ty t .truth (.has x o)
  | row : t.r = true → Ty t .number .row
  | num (n) : Ty t .number (.num n)
  | opt (o) : Ty t .option (.opt o)
  | not {e} : Ty t .truth e → Ty t .truth (.not e)
  | logic {g a b} : g = .or ∨ g = .and → Ty t .truth a → Ty t .truth b → Ty t .truth (.op g a b)
  | arith {g a b} : g = .add ∨ g = .sub ∨ g = .mul → Ty t .number a → Ty t .number b → Ty t .number (.op g a b)
  | ord {g a b} : g = .lt ∨ g = .ge → Ty t .number a → Ty t .number b → Ty t .truth (.op g a b)
  | same {g a b k} : g = .eq ∨ g = .ne → Ty t k a → Ty t k b → Ty t .truth (.op g a b)
  | els {a b k} : Ty t k a → Ty t k b → Ty t k (.op .els a b)
  | ite {c a b k} : Ty t .truth c → Ty t k a → Ty t k b → Ty t k (.ite c a b)
/-- L4: typing moves to where the names read are known alike -/
theorem Ty.move {t t' : Ts} (hr : t'.r = t.r) : ∀ {k : Kd} {e : Ex}, Ty t k e →
    (∀ x ∈ namesE e, (∀ k, (x, k) ∈ t.N → (x, k) ∈ t'.N) ∧ (∀ k, (x, k) ∈ t.O → (x, k) ∈ t'.O) ∧ (x ∈ t.S → x ∈ t'.S)) → Ty t' k e := by
  intro k e h
  induction h with
  | nam h p => intro q; exact .nam ((q _ (by simp [namesE])).1 _ h) p
  | answered h => intro q; exact .answered ((q _ (by simp [namesE])).1 _ h)
  | count h => intro q; exact .count ((q _ (by simp [namesE])).2.2 h)
  | sum h => intro q; exact .sum ((q _ (by simp [namesE])).2.1 _ h)
  | least h => intro q; exact .least ((q _ (by simp [namesE])).2.1 _ h)
  | greatest h => intro q; exact .greatest ((q _ (by simp [namesE])).2.1 _ h)
  | any h => intro q; exact .any ((q _ (by simp [namesE])).2.1 _ h)
  | all h => intro q; exact .all ((q _ (by simp [namesE])).2.1 _ h)
  | has h => intro q; exact .has ((q _ (by simp [namesE])).1 _ h)
  | row h => intro q; exact .row (hr.trans h)
  | num n => intro q; exact .num n
  | opt o => intro q; exact .opt o
  | not _ ih => intro q; exact .not (ih q)
  | logic g _ _ iha ihb => intro q; exact .logic g (iha fun x hx => q x (List.mem_append_left _ hx)) (ihb fun x hx => q x (List.mem_append_right _ hx))
  | arith g _ _ iha ihb => intro q; exact .arith g (iha fun x hx => q x (List.mem_append_left _ hx)) (ihb fun x hx => q x (List.mem_append_right _ hx))
  | ord g _ _ iha ihb => intro q; exact .ord g (iha fun x hx => q x (List.mem_append_left _ hx)) (ihb fun x hx => q x (List.mem_append_right _ hx))
  | same g _ _ iha ihb => intro q; exact .same g (iha fun x hx => q x (List.mem_append_left _ hx)) (ihb fun x hx => q x (List.mem_append_right _ hx))
  | els _ _ iha ihb => intro q; exact .els (iha fun x hx => q x (List.mem_append_left _ hx)) (ihb fun x hx => q x (List.mem_append_right _ hx))
  | ite _ _ _ ihc iha ihb =>
    intro q
    exact .ite (ihc fun x hx => q x (List.mem_append_left _ hx)) (iha fun x hx => q x (List.mem_append_right _ (List.mem_append_left _ hx))) (ihb fun x hx => q x (List.mem_append_right _ (List.mem_append_right _ hx)))
/-- the scope knows at least what t lists -/
structure Knows (s : Sc) (t : Ts) : Prop where
  n : ∀ x k, (x, k) ∈ t.N → s.names x = some k
  o : ∀ x k, (x, k) ∈ t.O → s.over x = some k
  z : ∀ x, x ∈ t.S → s.secs x = true
  r : s.row = t.r
/-- L3: typed is told -/
theorem kind_of {s : Sc} {t : Ts} (q : Knows s t) {k : Kd} {e : Ex} (h : Ty t k e) : kindM s e = some k := by
  induction h with
  | nam h p => simp [kindM, kindN, q.n _ _ h, p]
  | answered h => simp [kindM, askM, q.n _ _ h]
  | count h => simp [kindM, askM, q.z _ h]
  | sum h => simp [kindM, askM, q.o _ _ h]
  | least h => simp [kindM, askM, q.o _ _ h]
  | greatest h => simp [kindM, askM, q.o _ _ h]
  | any h => simp [kindM, askM, q.o _ _ h]
  | all h => simp [kindM, askM, q.o _ _ h]
  | has h => simp [kindM, q.n _ _ h]
  | row h => simp [kindM, q.r, h]
  | num n => rfl
  | opt o => rfl
  | not _ ih => simp [kindM, ih]
  | logic g _ _ iha ihb => rcases g with rfl | rfl <;> simp [kindM, opM, iha, ihb]
  | arith g _ _ iha ihb => rcases g with rfl | rfl | rfl <;> simp [kindM, opM, iha, ihb]
  | ord g _ _ iha ihb => rcases g with rfl | rfl <;> simp [kindM, opM, iha, ihb]
  | same g _ _ iha ihb => rcases g with rfl | rfl <;> simp [kindM, opM, iha, ihb]
  | els _ _ iha ihb => simp [kindM, opM, iha, ihb]
  | ite _ _ _ ihc iha ihb => simp [kindM, ihc, iha, ihb]

/-! ### right forms: each field with the kind it is told to have -/
abbrev DF := Fld × Option Kd
structure DS where
  name : Str
  cond : Option Ex
  most : Int
  fs : List DF
def DS.s (d : DS) : Sct := ⟨d.name, d.cond, d.most, d.fs.map (·.1)⟩
abbrev DS.rep (d : DS) : Bool := decide (0 < d.most)
def entD (d : DF) : Str × Option Kd := (d.1.name, d.2)
def entK (ds : List DF) : List (Str × Kd) := ds.filterMap fun d => d.2.map fun k => (d.1.name, k)
def entN (D : List DS) : List (Str × Kd) := D.flatMap fun d => if d.rep = true then [] else entK d.fs
def entO (D : List DS) : List (Str × Kd) := D.flatMap fun d => if d.rep = true then entK d.fs else []
def entS (D : List DS) : List Str := (D.filter (·.rep)).map (·.name)
def tsOf (D : List DS) (row : Bool) (own : List DF) : Ts := ⟨entN D ++ entK own, entO D, entS D, row⟩
def TyO (t : Ts) (k : Kd) (o : Option Ex) : Prop := ∀ e, o = some e → Ty t k e
def QOK (t : Ts) : Qk → Prop
  | .integer lo hi => TyO t .number lo ∧ TyO t .number hi
  | .opts _ os => (∀ p ∈ os, TyO t .truth p.2)
  | _ => True
def BOK (t : Ts) (k : Option Kd) : Fb → Prop
  | .q q _ => k = some q.kd ∧ QOK t q
  | .fm e => ∃ j, k = some j ∧ j.plain = true ∧ Ty t j e
  | .rl e _ => k = none ∧ Ty t .truth e
def FOK (t : Ts) (d : DF) : Prop := TyO t .truth d.1.cond ∧ BOK t d.2 d.1.body
def OKFs (D : List DS) (row : Bool) : List DF → List DF → Prop
  | _, [] => True
  | own, d :: ds => FOK (tsOf D row own) d ∧ OKFs D row (own ++ [d]) ds
def OKS (D : List DS) (d : DS) : Prop := TyO (tsOf D false []) .truth d.cond ∧ OKFs D d.rep [] d.fs
def OKD : List DS → List DS → Prop
  | _, [] => True
  | D, d :: ds => OKS D d ∧ OKD (D ++ [d]) ds
theorem OKFs_app {D : List DS} {row : Bool} : ∀ {A B own : List DF}, OKFs D row own (A ++ B) ↔ OKFs D row own A ∧ OKFs D row (own ++ A) B
  | [], B, own => by simp [OKFs]
  | a :: A, B, own => by
    show (_ ∧ OKFs D row _ (A ++ B)) ↔ (_ ∧ _) ∧ _
    rw [OKFs_app, and_assoc, List.append_assoc]
    rfl
theorem OKD_app : ∀ {A B D : List DS}, OKD D (A ++ B) ↔ OKD D A ∧ OKD (D ++ A) B
  | [], B, D => by simp [OKD]
  | a :: A, B, D => by
    show (_ ∧ OKD _ (A ++ B)) ↔ (_ ∧ _) ∧ _
    rw [OKD_app, and_assoc, List.append_assoc]
    rfl
/-- t' knows of the names in xs all that t knows -/
def Fits (t t' : Ts) (xs : List Str) : Prop := ∀ x ∈ xs, (∀ k, (x, k) ∈ t.N → (x, k) ∈ t'.N) ∧ (∀ k, (x, k) ∈ t.O → (x, k) ∈ t'.O) ∧ (x ∈ t.S → x ∈ t'.S)
theorem TyO.move {t t' : Ts} {k : Kd} {o : Option Ex} (hr : t'.r = t.r) (h : TyO t k o) (q : Fits t t' (o.toList.flatMap namesE)) : TyO t' k o := fun e he => by
  subst he
  exact (h e rfl).move hr fun x hx => q x (by simpa using hx)
theorem FOK.move {t t' : Ts} {d : DF} (hr : t'.r = t.r) (h : FOK t d) (q : Fits t t' (readsF d.1)) : FOK t' d := by
  obtain ⟨h1, h2⟩ := h
  have q1 : Fits t t' (d.1.cond.toList.flatMap namesE) := fun x hx => q x (by simp only [readsF, exprsM, List.flatMap_append, List.mem_append]; exact .inl hx)
  have q2 : Fits t t' ((bExprs d.1.body).flatMap namesE) := fun x hx => q x (by simp only [readsF, exprsM, List.flatMap_append, List.mem_append]; exact .inr hx)
  refine ⟨h1.move hr q1, ?_⟩
  cases hb : d.1.body with
  | q k r =>
    rw [hb] at h2 q2
    refine ⟨h2.1, ?_⟩
    have h3 := h2.2
    cases k with
    | truth => trivial
    | text => trivial
    | integer lo hi =>
      refine ⟨h3.1.move hr fun x hx => q2 x ?_, h3.2.move hr fun x hx => q2 x ?_⟩
      · simp only [bExprs, qExprs, List.flatMap_append, List.mem_append]; exact .inl hx
      · simp only [bExprs, qExprs, List.flatMap_append, List.mem_append]; exact .inr hx
    | opts m os =>
      refine fun p hp => (h3 p hp).move hr fun x hx => q2 x ?_
      obtain ⟨e, he, hx⟩ := List.mem_flatMap.mp hx
      refine List.mem_flatMap.mpr ⟨e, List.mem_filterMap.mpr ⟨p, hp, by simpa using he⟩, hx⟩
  | fm e =>
    rw [hb] at h2 q2
    obtain ⟨j, e1, e2, ty⟩ := h2
    exact ⟨j, e1, e2, ty.move hr fun x hx => q2 x (by simpa [bExprs] using hx)⟩
  | rl e b =>
    rw [hb] at h2 q2
    exact ⟨h2.1, h2.2.move hr fun x hx => q2 x (by simpa [bExprs] using hx)⟩
theorem entK_app (A B : List DF) : entK (A ++ B) = entK A ++ entK B := List.filterMap_append ..
theorem mem_entK {ds : List DF} {x : Str} {k : Kd} (h : (x, k) ∈ entK ds) : ∃ d ∈ ds, d.1.name = x ∧ d.2 = some k := by
  obtain ⟨d, hd, e⟩ := List.mem_filterMap.mp h
  cases hk : d.2 with
  | none => rw [hk] at e; cases e
  | some j =>
    rw [hk] at e
    have e := Option.some.inj e
    exact ⟨d, hd, congrArg Prod.fst e, by rw [hk]; exact congrArg (fun p => some p.2) e⟩
/-- what is known more leaves the rest right -/
def Sub (D D' : List DS) : Prop := (∀ p, p ∈ entN D → p ∈ entN D') ∧ (∀ p, p ∈ entO D → p ∈ entO D') ∧ (∀ x, x ∈ entS D → x ∈ entS D')
theorem Sub.snoc {D D' : List DS} (h : Sub D D') (d : DS) : Sub (D ++ [d]) (D' ++ [d]) := by
  refine ⟨fun p q => ?_, fun p q => ?_, fun p q => ?_⟩
  · simp only [entN, List.flatMap_append, List.mem_append] at q ⊢
    exact q.imp (h.1 p) id
  · simp only [entO, List.flatMap_append, List.mem_append] at q ⊢
    exact q.imp (h.2.1 p) id
  · simp only [entS, List.filter_append, List.map_append, List.mem_append] at q ⊢
    exact q.imp (h.2.2 p) id
theorem OKFs.mono {D D' : List DS} {row : Bool} (hs : Sub D D') : ∀ {ds own own' : List DF}, OKFs D row own ds → (∀ d, d ∈ own → d ∈ own') → OKFs D' row own' ds
  | [], _, _, _, _ => trivial
  | d :: ds, own, own', h, ho => by
    refine ⟨h.1.move (t := tsOf D row own) (t' := tsOf D' row own') rfl fun x _ => ⟨fun k q => ?_, fun k q => hs.2.1 _ q, fun q => hs.2.2 _ q⟩, OKFs.mono hs h.2 fun e he => ?_⟩
    · rcases List.mem_append.mp q with q | q
      · exact List.mem_append_left _ (hs.1 _ q)
      · refine List.mem_append_right _ ?_
        obtain ⟨e, he, e1, e2⟩ := mem_entK q
        exact List.mem_filterMap.mpr ⟨e, ho e he, by rw [e2, ← e1]; rfl⟩
    · rcases List.mem_append.mp he with he | he
      · exact List.mem_append_left _ (ho e he)
      · exact List.mem_append_right _ he
theorem OKS.mono {D D' : List DS} (hs : Sub D D') {d : DS} (h : OKS D d) : OKS D' d := by
  refine ⟨h.1.move (t := tsOf D false []) (t' := tsOf D' false []) rfl fun x _ => ⟨fun k q => ?_, fun k q => hs.2.1 _ q, fun q => hs.2.2 _ q⟩, h.2.mono hs fun _ q => q⟩
  rcases List.mem_append.mp q with q | q
  · exact List.mem_append_left _ (hs.1 _ q)
  · cases q
theorem OKD.mono : ∀ {ds D D' : List DS}, OKD D ds → Sub D D' → OKD D' ds
  | [], _, _, _, _ => trivial
  | d :: ds, D, D', h, hs => ⟨h.1.mono hs, OKD.mono h.2 (hs.snoc d)⟩

/-! ### the program's scope at a place knows what is listed -/
def keysD (D : List DS) : List Str := D.flatMap fun d => d.fs.map fun f => f.1.name
theorem fk_ne {g : Str → Option Kd} {n : Str} {k : Option Kd} {x : Str} (h : x ≠ n) : fk g n k x = g x := by
  unfold fk; rw [if_neg h]
theorem fks_keep : ∀ {own : List (Str × Option Kd)} {g : Str → Option Kd} {x : Str}, x ∉ own.map (·.1) → fks g own x = g x
  | [], _, _, _ => rfl
  | p :: own, g, x, h => by
    simp only [List.map_cons, List.mem_cons, not_or] at h
    show fks (fk g p.1 p.2) own x = g x
    rw [fks_keep h.2, fk_ne h.1]
theorem fks_get : ∀ {own : List (Str × Option Kd)} {g : Str → Option Kd} {x : Str} {k : Kd}, (own.map (·.1)).Nodup → (x, some k) ∈ own → g x = none → fks g own x = some k
  | [], _, _, _, _, h, _ => by cases h
  | p :: own, g, x, k, hn, h, hg => by
    obtain ⟨n1, n2⟩ := List.nodup_cons.mp hn
    rcases List.mem_cons.mp h with h | h
    · subst h
      show fks (fk g x (some k)) own x = some k
      rw [fks_keep n1]
      simp [fk, hg]
    · have hx : x ≠ p.1 := fun z => n1 (List.mem_map.mpr ⟨_, h, z⟩)
      exact fks_get (own := own) (g := fk g p.1 p.2) n2 h (by rw [fk_ne hx]; exact hg)
theorem fks_app (g : Str → Option Kd) (A B : List (Str × Option Kd)) : fks g (A ++ B) = fks (fks g A) B := List.foldl_append ..
/-- the state behind right sections -/
structure Behind (sv : Sv) (D : List DS) : Prop where
  n : ∀ x k, (x, k) ∈ entN D → sv.names x = some k
  o : ∀ x k, (x, k) ∈ entO D → sv.over x = some k
  s : ∀ x, x ∈ entS D → sv.secs x = true
  dn : ∀ x, sv.names x ≠ none → x ∈ keysD D
  d0 : ∀ x, sv.over x ≠ none → x ∈ keysD D
theorem Behind.zero : Behind sv0 [] := ⟨fun _ _ h => (by cases h), fun _ _ h => (by cases h), fun _ h => (by cases h), fun _ h => absurd rfl h, fun _ h => absurd rfl h⟩
theorem ent_entK {ds : List DF} {x : Str} {k : Kd} (h : (x, k) ∈ entK ds) : (x, some k) ∈ ds.map entD := by
  obtain ⟨d, hd, e1, e2⟩ := mem_entK h
  exact List.mem_map.mpr ⟨d, hd, by simp [entD, e1, e2]⟩
theorem none_not {α : Type} {o : Option α} (h : ¬ o ≠ none) : o = none := by
  cases o with
  | none => rfl
  | some a => exact absurd (by simp) h
theorem Behind.knows {sv : Sv} {D : List DS} (b : Behind sv D) {row : Bool} {own : List DF} (hn : (own.map fun d => d.1.name).Nodup) (hd : ∀ d ∈ own, d.1.name ∉ keysD D) :
    Knows (scopeM sv row (own.map entD)) (tsOf D row own) := by
  have hk : (own.map entD).map (·.1) = own.map fun d => d.1.name := by rw [List.map_map]; rfl
  refine ⟨fun x k h => ?_, b.o, b.s, rfl⟩
  show fks sv.names (own.map entD) x = some k
  rcases List.mem_append.mp h with h | h
  · have hx : x ∈ keysD D := b.dn x (by rw [b.n x k h]; simp)
    rw [fks_keep, b.n x k h]
    rw [hk]
    intro q
    obtain ⟨d, hd1, e⟩ := List.mem_map.mp q
    exact hd d hd1 (by rw [e]; exact hx)
  · refine fks_get (by rw [hk]; exact hn) (ent_entK h) (none_not fun q => ?_)
    obtain ⟨d, hd1, e1, e2⟩ := mem_entK h
    exact hd d hd1 (by rw [e1]; exact b.dn x q)
theorem isNo_ok {s : Sc} {t : Ts} (q : Knows s t) {k : Kd} {o : Option Ex} (h : TyO t k o) : isNo s o k = false := by
  cases o with
  | none => rfl
  | some e => simp [isNo, kind_of q (h e rfl)]
theorem fld_ok {s : Sc} {t : Ts} (q : Knows s t) {d : DF} (h : FOK t d) : fieldIss s d.1 = [] ∧ fkindM s d.1 = d.2 := by
  obtain ⟨h1, h2⟩ := h
  have c : isNo s d.1.cond .truth = false := isNo_ok q h1
  have both : bIss s d.1.name d.1.body = [] ∧ fkindM s d.1 = d.2 := by
    unfold fkindM
    cases hb : d.1.body with
    | q k r =>
      rw [hb] at h2
      refine ⟨?_, h2.1.symm⟩
      have h3 := h2.2
      cases k with
      | truth => rfl
      | text => rfl
      | integer lo hi => simp [bIss, qIss, isNo_ok q h3.1, isNo_ok q h3.2]
      | opts m os =>
        simp only [bIss, qIss, List.map_eq_nil_iff, List.filter_eq_nil_iff]
        intro p hp
        simp [isNo_ok q (h3 p hp)]
    | fm e =>
      rw [hb] at h2
      obtain ⟨j, e1, e2, ty⟩ := h2
      refine ⟨?_, by rw [e1]; exact kind_of q ty⟩
      simp [bIss, kind_of q ty, e2]
    | rl e b =>
      rw [hb] at h2
      exact ⟨by simp [bIss, kind_of q h2.2], h2.1.symm⟩
  refine ⟨?_, both.2⟩
  unfold fieldIss
  rw [c, both.1]
  rfl
theorem flds_ok {sv : Sv} {D : List DS} (b : Behind sv D) {row : Bool} : ∀ {ds own : List DF}, OKFs D row own ds → ((own ++ ds).map fun d => d.1.name).Nodup → (∀ d ∈ own ++ ds, d.1.name ∉ keysD D) →
    (fldsM sv row (own.map entD) (ds.map (·.1))).flatMap (fun p => fieldIss p.2 p.1) = [] ∧ ownsM sv row (own.map entD) (ds.map (·.1)) = (own ++ ds).map entD
  | [], own, _, _, _ => by simp [fldsM, ownsM]
  | d :: ds, own, h, hn, hk => by
    have hn1 : (own.map fun d => d.1.name).Nodup := by
      rw [List.map_append] at hn
      exact (List.nodup_append.mp hn).1
    obtain ⟨i1, i2⟩ := fld_ok (b.knows (row := row) hn1 fun e he => hk e (List.mem_append_left _ he)) h.1
    have e1 : own.map entD ++ [(d.1.name, fkindM (scopeM sv row (own.map entD)) d.1)] = (own ++ [d]).map entD := by
      rw [List.map_append, i2]
      rfl
    have e2 : own ++ [d] ++ ds = own ++ d :: ds := by simp
    obtain ⟨j1, j2⟩ := flds_ok b (ds := ds) (own := own ++ [d]) h.2 (by rw [e2]; exact hn) (by rw [e2]; exact hk)
    constructor
    · show fieldIss (scopeM sv row (own.map entD)) d.1 ++ (fldsM sv row (own.map entD ++ [(d.1.name, fkindM (scopeM sv row (own.map entD)) d.1)]) (ds.map (·.1))).flatMap (fun p => fieldIss p.2 p.1) = []
      rw [e1, i1, j1]
      rfl
    · show ownsM sv row (own.map entD ++ [(d.1.name, fkindM (scopeM sv row (own.map entD)) d.1)]) (ds.map (·.1)) = _
      rw [e1, j2, e2]
theorem keysD_app (A B : List DS) : keysD (A ++ B) = keysD A ++ keysD B := List.flatMap_append
theorem sec_ok {sv : Sv} {D : List DS} (b : Behind sv D) {d : DS} (h : OKS D d) (hn : (keysD (D ++ [d])).Nodup) : secIss sv d.s = [] ∧ Behind (svAfter sv d.s) (D ++ [d]) := by
  have ek : keysD (D ++ [d]) = keysD D ++ d.fs.map fun f => f.1.name := by rw [keysD_app]; simp [keysD]
  rw [ek] at hn
  obtain ⟨n1, n2, n3⟩ := List.nodup_append.mp hn
  have apart : ∀ f ∈ d.fs, f.1.name ∉ keysD D := fun f hf q => n3 _ q _ (List.mem_map.mpr ⟨f, hf, rfl⟩) rfl
  obtain ⟨j1, j2⟩ := flds_ok b (row := d.rep) (ds := d.fs) (own := []) h.2 n2 apart
  have j2 : ownsM sv d.rep [] (d.fs.map (·.1)) = d.fs.map entD := j2
  have hc : isNo (scopeM sv false []) d.cond .truth = false := isNo_ok (b.knows (own := []) List.nodup_nil (fun _ q => by cases q)) h.1
  constructor
  · rw [secIss_eq]
    show (if isNo (scopeM sv false []) d.cond .truth = true then [(d.name, Is.condition)] else []) ++ _ = []
    rw [hc]
    exact j1
  · have ha : svAfter sv d.s = leaveM sv d.s (d.fs.map entD) := by
      unfold svAfter
      exact congrArg _ j2
    have kk : (d.fs.map entD).map (·.1) = d.fs.map fun f => f.1.name := by rw [List.map_map]; rfl
    have old : ∀ g : Str → Option Kd, (∀ x, g x ≠ none → x ∈ keysD D) → ∀ x k, g x = some k → fks g (d.fs.map entD) x = some k := fun g hg x k e => by
      rw [fks_keep, e]
      rw [kk]
      intro q
      obtain ⟨f, hf, e1⟩ := List.mem_map.mp q
      exact apart f hf (by rw [e1]; exact hg x (by rw [e]; simp))
    have new : ∀ g : Str → Option Kd, (∀ x, g x ≠ none → x ∈ keysD D) → ∀ x k, (x, k) ∈ entK d.fs → fks g (d.fs.map entD) x = some k := fun g hg x k e => by
      refine fks_get (by rw [kk]; exact n2) (ent_entK e) (none_not fun q => ?_)
      obtain ⟨f, hf, e1, e2⟩ := mem_entK e
      exact apart f hf (by rw [e1]; exact hg x q)
    have dom : ∀ g : Str → Option Kd, (∀ x, g x ≠ none → x ∈ keysD D) → ∀ x, fks g (d.fs.map entD) x ≠ none → x ∈ keysD (D ++ [d]) := fun g hg x e => by
      rw [ek]
      rcases fks_dom e with q | q
      · exact List.mem_append_left _ (hg x q)
      · rw [kk] at q; exact List.mem_append_right _ q
    have keep : ∀ x, x ∈ keysD D → x ∈ keysD (D ++ [d]) := fun x q => by rw [ek]; exact List.mem_append_left _ q
    rw [ha]
    unfold leaveM
    by_cases hr : d.rep = true
    · have hr' : d.s.rep = true := hr
      rw [if_pos hr']
      have eN : entN (D ++ [d]) = entN D := by simp only [entN, List.flatMap_append, List.flatMap_cons, List.flatMap_nil, if_pos hr, List.append_nil]
      have eO : entO (D ++ [d]) = entO D ++ entK d.fs := by simp only [entO, List.flatMap_append, List.flatMap_cons, List.flatMap_nil, if_pos hr, List.append_nil]
      have eS : entS (D ++ [d]) = entS D ++ [d.name] := by simp only [entS, List.filter_append, List.map_append]; rw [show [d].filter (·.rep) = [d] by simp only [List.filter_cons, hr, if_true, List.filter_nil]]; rfl
      refine ⟨fun x k q => b.n x k (by rw [← eN]; exact q), fun x k q => ?_, fun x q => ?_, fun x q => keep x (b.dn x q), dom _ b.d0⟩
      · rw [eO] at q
        rcases List.mem_append.mp q with q | q
        · exact old _ b.d0 x k (b.o x k q)
        · exact new _ b.d0 x k q
      · rw [eS] at q
        show (decide (x = d.s.name) || sv.secs x) = true
        rcases List.mem_append.mp q with q | q
        · rw [b.s x q, Bool.or_true]
        · have : x = d.s.name := List.mem_singleton.mp q
          rw [decide_eq_true this]
          rfl
    · have hr' : ¬ d.s.rep = true := hr
      rw [if_neg hr']
      have eN : entN (D ++ [d]) = entN D ++ entK d.fs := by simp only [entN, List.flatMap_append, List.flatMap_cons, List.flatMap_nil, if_neg hr, List.append_nil]
      have eO : entO (D ++ [d]) = entO D := by simp only [entO, List.flatMap_append, List.flatMap_cons, List.flatMap_nil, if_neg hr, List.append_nil]
      have eS : entS (D ++ [d]) = entS D := by simp only [entS, List.filter_append, List.map_append]; rw [show [d].filter (·.rep) = [] by simp only [List.filter_cons, if_neg hr, List.filter_nil]]; simp
      refine ⟨fun x k q => ?_, fun x k q => b.o x k (by rw [← eO]; exact q), fun x q => b.s x (by rw [← eS]; exact q), dom _ b.dn, fun x q => keep x (b.d0 x q)⟩
      rw [eN] at q
      rcases List.mem_append.mp q with q | q
      · exact old _ b.dn x k (b.n x k q)
      · exact new _ b.dn x k q
theorem form_ok : ∀ {ds D : List DS} {sv : Sv}, Behind sv D → OKD D ds → (keysD (D ++ ds)).Nodup → formIss sv (ds.map DS.s) = []
  | [], _, sv, _, _, _ => formIss_nil sv
  | d :: ds, D, sv, b, h, hn => by
    have e : D ++ d :: ds = D ++ [d] ++ ds := by simp
    rw [e] at hn
    have hn1 : (keysD (D ++ [d])).Nodup := by
      rw [keysD_app] at hn
      exact (List.nodup_append.mp hn).1
    obtain ⟨i1, b1⟩ := sec_ok b h.1 hn1
    rw [List.map_cons, formIss_cons, i1, form_ok b1 h.2 hn]
    rfl

/-! ### the law's questions -/
def namesDS (d : DS) : List Str := d.name :: d.fs.map fun f => f.1.name
def namesD (D : List DS) : List Str := D.flatMap namesDS
theorem namesS_s (d : DS) : namesS d.s = namesDS d := by simp [namesS, DS.s, namesDS, List.map_map, Function.comp_def]
theorem allNames_s (D : List DS) : allNames (D.map DS.s) = namesD D := by
  simp [allNames, namesD, List.flatMap_map, namesS_s]
theorem twice_nil : ∀ {xs : List Str}, xs.Nodup → twiceM xs = []
  | [], _ => rfl
  | x :: xs, h => by
    obtain ⟨h1, h2⟩ := List.nodup_cons.mp h
    show (if x ∈ xs then _ else twiceM xs) = []
    rw [if_neg h1, twice_nil h2]
theorem twice_one : ∀ {xs : List Str} {y : Str}, xs.Nodup → y ∈ xs → twiceM (xs ++ [y]) = [(y, Is.twice)]
  | [], _, _, h => by cases h
  | x :: xs, y, hn, h => by
    obtain ⟨h1, h2⟩ := List.nodup_cons.mp hn
    show (if x ∈ xs ++ [y] then (x, Is.twice) :: twiceM (xs ++ [y]) else twiceM (xs ++ [y])) = _
    by_cases e : x = y
    · subst e
      rw [if_pos (by simp), twice_nil]
      rw [List.nodup_append]
      exact ⟨h2, by simp, fun a ha b hb => by rw [List.mem_singleton.mp hb]; exact fun z => h1 (z ▸ ha)⟩
    · rcases List.mem_cons.mp h with q | q
      · exact absurd q.symm e
      · rw [if_neg (by simp only [List.mem_append, List.mem_singleton, not_or]; exact ⟨h1, e⟩), twice_one h2 q]
theorem keys_sub : ∀ D : List DS, (keysD D).Sublist (namesD D)
  | [] => .slnil
  | d :: D => by
    show (d.fs.map (fun f => f.1.name) ++ keysD D).Sublist (d.name :: d.fs.map (fun f => f.1.name) ++ namesD D)
    exact List.Sublist.append (List.sublist_cons_self ..) (keys_sub D)
/-- a right form -/
structure Right (D : List DS) : Prop where
  ok : OKD [] D
  nd : (namesD D).Nodup
theorem right_told {D : List DS} (h : Right D) : issuesM (D.map DS.s) = [] := by
  unfold issuesM
  rw [allNames_s, twice_nil h.nd, form_ok Behind.zero h.ok ((keys_sub D).nodup h.nd)]
  rfl
theorem namesD_app (A B : List DS) : namesD (A ++ B) = namesD A ++ namesD B := List.flatMap_append
end FF
/-! What the law asks of right forms. -/
namespace FF
open PySem

abbrev DS.mk' (s : DS) (fs : List DF) : DS := ⟨s.name, s.cond, s.most, fs⟩
theorem perm_nd {A B : List Str} (h : A.Perm B) (n : A.Nodup) : B.Nodup := h.nodup_iff.mp n
theorem entK_mem {A B : List DF} (h : ∀ d, d ∈ A → d ∈ B) : ∀ p, p ∈ entK A → p ∈ entK B := fun p hp => by
  obtain ⟨d, hd, e⟩ := List.mem_filterMap.mp hp
  exact List.mem_filterMap.mpr ⟨d, h d hd, e⟩
theorem sub_fields {A : List DS} {s : DS} {fs : List DF} (h : ∀ d, d ∈ s.fs → d ∈ fs) : Sub (A ++ [s]) (A ++ [s.mk' fs]) := by
  refine ⟨fun p q => ?_, fun p q => ?_, fun p q => ?_⟩
  · simp only [entN, List.flatMap_append, List.flatMap_cons, List.flatMap_nil, List.append_nil, List.mem_append] at q ⊢
    refine q.imp id fun q => ?_
    by_cases hr : s.rep = true
    · rw [if_pos hr] at q; cases q
    · rw [if_neg hr] at q; rw [if_neg hr]; exact entK_mem h p q
  · simp only [entO, List.flatMap_append, List.flatMap_cons, List.flatMap_nil, List.append_nil, List.mem_append] at q ⊢
    refine q.imp id fun q => ?_
    by_cases hr : s.rep = true
    · rw [if_pos hr] at q; rw [if_pos hr]; exact entK_mem h p q
    · rw [if_neg hr] at q; cases q
  · simp only [entS, List.filter_append, List.map_append, List.mem_append] at q ⊢
    refine q.imp id fun q => ?_
    by_cases hr : s.rep = true
    · have hr' : (s.mk' fs).rep = true := hr
      rw [List.filter_cons, if_pos hr] at q
      rw [List.filter_cons, if_pos hr']
      exact q
    · have hr' : ¬ (s.mk' fs).rep = true := hr
      rw [List.filter_cons, if_neg hr] at q
      cases q

section
variable {A B : List DS} {s v : DS} {P Q : List DF} {u w : DF}
theorem ex_nd (h : (namesD (A ++ s :: B)).Nodup) (e : s.fs = P ++ u :: w :: Q) : (namesD (A ++ s.mk' (P ++ w :: u :: Q) :: B)).Nodup := by
  refine perm_nd ?_ h
  simp only [namesD_app]
  refine List.Perm.append_left _ ?_
  show (namesDS s ++ namesD B).Perm (namesDS (s.mk' (P ++ w :: u :: Q)) ++ namesD B)
  refine List.Perm.append_right _ ?_
  show (s.name :: s.fs.map (fun f => f.1.name)).Perm (s.name :: (P ++ w :: u :: Q).map (fun f => f.1.name))
  rw [e]
  refine List.Perm.cons _ (List.Perm.map _ ?_)
  exact List.Perm.append_left _ (List.Perm.swap ..)
theorem ex_right (h : Right (A ++ s :: B)) (e : s.fs = P ++ u :: w :: Q) (hr : u.1.name ∉ readsF w.1) : Right (A ++ s.mk' (P ++ w :: u :: Q) :: B) := by
  refine ⟨?_, ex_nd h.nd e⟩
  obtain ⟨hA, hS, hB⟩ := OKD_app.mp h.ok
  refine OKD_app.mpr ⟨hA, ?_, ?_⟩
  · obtain ⟨hc, hf⟩ := hS
    refine ⟨hc, ?_⟩
    have hf : OKFs ([] ++ A) s.rep [] (P ++ u :: w :: Q) := e ▸ hf
    show OKFs ([] ++ A) s.rep [] (P ++ w :: u :: Q)
    obtain ⟨f1, f2, f3, f4⟩ := OKFs_app.mp hf
    refine OKFs_app.mpr ⟨f1, ?_, ?_, ?_⟩
    · refine f3.move (t := tsOf ([] ++ A) s.rep ([] ++ P ++ [u])) (t' := tsOf ([] ++ A) s.rep ([] ++ P)) rfl fun x hx => ⟨fun k q => ?_, fun k q => q, fun q => q⟩
      rcases List.mem_append.mp q with q | q
      · exact List.mem_append_left _ q
      · refine List.mem_append_right _ ?_
        obtain ⟨d, hd, e1, e2⟩ := mem_entK q
        rcases List.mem_append.mp hd with hd | hd
        · exact List.mem_filterMap.mpr ⟨d, hd, by rw [e2, ← e1]; rfl⟩
        · rw [List.mem_singleton.mp hd] at e1
          exact absurd (e1 ▸ hx) hr
    · have m : OKFs ([] ++ A) s.rep ([] ++ P ++ [w]) [u] := OKFs.mono (D := [] ++ A) (own := [] ++ P) ⟨fun _ q => q, fun _ q => q, fun _ q => q⟩ ⟨f2, trivial⟩ fun d hd => List.mem_append_left _ hd
      exact m.1
    · refine OKFs.mono ⟨fun _ q => q, fun _ q => q, fun _ q => q⟩ f4 fun d hd => ?_
      simp only [List.mem_append, List.mem_singleton] at hd ⊢
      rcases hd with (hd | hd) | hd
      · exact .inl (.inl hd)
      · exact .inr hd
      · exact .inl (.inr hd)
  · refine OKD.mono hB (sub_fields (A := [] ++ A) fun d hd => ?_)
    rw [e] at hd
    simp only [List.mem_append, List.mem_cons] at hd ⊢
    rcases hd with hd | hd | hd | hd
    · exact .inl hd
    · exact .inr (.inr (.inl hd))
    · exact .inr (.inl hd)
    · exact .inr (.inr (.inr hd))
theorem swap_right (h : Right (A ++ s :: B)) (e : s.fs = P ++ u :: w :: Q) (hr : u.1.name ∉ readsF w.1) : issuesM ((A ++ s.mk' (P ++ w :: u :: Q) :: B).map DS.s) = [] :=
  right_told (ex_right h e hr)
theorem swap_told (h : Right (A ++ s :: B)) (e : s.fs = P ++ u :: w :: Q) (hr : u.1.name ∈ readsF w.1) : ∃ i, (w.1.name, i) ∈ issuesM ((A ++ s.mk' (P ++ w :: u :: Q) :: B).map DS.s) := by
  have nd := ex_nd h.nd e
  have na : ¬ Av (scopeM (svFold sv0 (A.map DS.s)) s.rep (ownsM (svFold sv0 (A.map DS.s)) s.rep [] (P.map (·.1)))) u.1.name := fun q => by
    have hu : u.1.name ∈ namesDS s := by
      refine List.mem_cons_of_mem _ (List.mem_map.mpr ⟨u, ?_, rfl⟩)
      rw [e]; simp
    have nd0 := h.nd
    rw [namesD_app] at nd0
    obtain ⟨_, n2, n3⟩ := List.nodup_append.mp nd0
    rcases av_ahead q with q | q
    · rw [allNames_s] at q
      exact n3 _ q _ (by show _ ∈ namesDS s ++ _; exact List.mem_append_left _ hu) rfl
    · rw [owns_names] at q
      have q : u.1.name ∈ P.map (fun f => f.1.name) := by simpa [List.map_map, Function.comp_def] using q
      have n2 : (namesDS s ++ namesD B).Nodup := n2
      have n4 := (List.nodup_append.mp n2).1
      have n4 : (s.fs.map (fun f => f.1.name)).Nodup := (List.nodup_cons.mp n4).2
      rw [e, List.map_append] at n4
      exact (List.nodup_append.mp n4).2.2 _ q _ (by simp) rfl
  obtain ⟨i, hi⟩ := told_of_reads hr na
  refine ⟨i, ?_⟩
  rw [List.map_append, List.map_cons]
  refine List.mem_append_right _ ?_
  rw [formIss_app, formIss_cons, secIss_eq]
  refine List.mem_append_right _ (List.mem_append_left _ (List.mem_append_right _ ?_))
  show _ ∈ (fldsM (svFold sv0 (A.map DS.s)) s.rep [] ((P ++ w :: u :: Q).map (·.1))).flatMap fun p => fieldIss p.2 p.1
  rw [List.map_append, fldsM_app, List.flatMap_append]
  exact List.mem_append_right _ (List.mem_append_left _ hi)

theorem sec_nd (h : (namesD (A ++ s :: v :: B)).Nodup) : (namesD (A ++ v :: s :: B)).Nodup := by
  refine perm_nd ?_ h
  simp only [namesD_app]
  refine List.Perm.append_left _ ?_
  show (namesDS s ++ (namesDS v ++ namesD B)).Perm (namesDS v ++ (namesDS s ++ namesD B))
  rw [← List.append_assoc, ← List.append_assoc]
  exact List.Perm.append_right _ List.perm_append_comm
theorem mem_entN_snoc {x : Str} {k : Kd} (h : (x, k) ∈ entN (A ++ [s])) : (x, k) ∈ entN A ∨ x ∈ namesDS s := by
  simp only [entN, List.flatMap_append, List.flatMap_cons, List.flatMap_nil, List.append_nil, List.mem_append] at h
  refine h.imp id fun h => ?_
  split at h
  · cases h
  · obtain ⟨d, hd, e1, _⟩ := mem_entK h
    exact List.mem_cons_of_mem _ (List.mem_map.mpr ⟨d, hd, e1⟩)
theorem mem_entO_snoc {x : Str} {k : Kd} (h : (x, k) ∈ entO (A ++ [s])) : (x, k) ∈ entO A ∨ x ∈ namesDS s := by
  simp only [entO, List.flatMap_append, List.flatMap_cons, List.flatMap_nil, List.append_nil, List.mem_append] at h
  refine h.imp id fun h => ?_
  split at h
  · obtain ⟨d, hd, e1, _⟩ := mem_entK h
    exact List.mem_cons_of_mem _ (List.mem_map.mpr ⟨d, hd, e1⟩)
  · cases h
theorem mem_entS_snoc {x : Str} (h : x ∈ entS (A ++ [s])) : x ∈ entS A ∨ x ∈ namesDS s := by
  simp only [entS, List.filter_append, List.map_append, List.mem_append] at h
  refine h.imp id fun h => ?_
  obtain ⟨d, hd, e⟩ := List.mem_map.mp h
  have := List.mem_singleton.mp (List.mem_filter.mp hd).1
  subst this
  rw [← e]
  exact List.mem_cons_self
theorem fits_less {row : Bool} {own : List DF} {xs : List Str} (hr : ∀ x ∈ xs, x ∉ namesDS s) : Fits (tsOf (A ++ [s]) row own) (tsOf A row own) xs := fun x hx =>
  ⟨fun k q => by
    rcases List.mem_append.mp q with q | q
    · rcases mem_entN_snoc q with q | q
      · exact List.mem_append_left _ q
      · exact absurd q (hr x hx)
    · exact List.mem_append_right _ q,
   fun k q => (mem_entO_snoc q).resolve_right (hr x hx), fun q => (mem_entS_snoc q).resolve_right (hr x hx)⟩
theorem OKFs.less {row : Bool} : ∀ {ds own : List DF}, OKFs (A ++ [s]) row own ds → (∀ d ∈ ds, ∀ x ∈ readsF d.1, x ∉ namesDS s) → OKFs A row own ds
  | [], _, _, _ => trivial
  | d :: ds, own, h, hr => ⟨h.1.move (t := tsOf (A ++ [s]) row own) rfl (fits_less (hr d List.mem_cons_self)), OKFs.less h.2 fun e he => hr e (List.mem_cons_of_mem _ he)⟩
theorem reads_fld {d : DF} (hd : d ∈ v.fs) {x : Str} (hx : x ∈ readsF d.1) : x ∈ readsS v.s :=
  List.mem_append_right _ (List.mem_flatMap.mpr ⟨d.1, List.mem_map.mpr ⟨d, hd, rfl⟩, hx⟩)
theorem secs_right (h : Right (A ++ s :: v :: B)) (hr : ∀ x ∈ readsS v.s, x ∉ namesDS s) : Right (A ++ v :: s :: B) := by
  refine ⟨?_, sec_nd h.nd⟩
  obtain ⟨hA, hS, hV, hB⟩ := OKD_app.mp h.ok
  refine OKD_app.mpr ⟨hA, ?_, ?_, ?_⟩
  · obtain ⟨hc, hf⟩ := hV
    exact ⟨hc.move (t := tsOf ([] ++ A ++ [s]) false []) rfl (fits_less fun x hx => hr x (List.mem_append_left _ hx)), hf.less fun d hd x hx => hr x (reads_fld hd hx)⟩
  · refine hS.mono ⟨fun p q => ?_, fun p q => ?_, fun p q => ?_⟩
    · simp only [entN, List.flatMap_append, List.mem_append] at q ⊢; exact .inl q
    · simp only [entO, List.flatMap_append, List.mem_append] at q ⊢; exact .inl q
    · simp only [entS, List.filter_append, List.map_append, List.mem_append] at q ⊢; exact .inl q
  · refine OKD.mono hB ⟨fun p q => ?_, fun p q => ?_, fun p q => ?_⟩
    · simp only [entN, List.flatMap_append, List.mem_append] at q ⊢
      rcases q with (q | q) | q
      · exact .inl (.inl q)
      · exact .inr q
      · exact .inl (.inr q)
    · simp only [entO, List.flatMap_append, List.mem_append] at q ⊢
      rcases q with (q | q) | q
      · exact .inl (.inl q)
      · exact .inr q
      · exact .inl (.inr q)
    · simp only [entS, List.filter_append, List.map_append, List.mem_append] at q ⊢
      rcases q with (q | q) | q
      · exact .inl (.inl q)
      · exact .inr q
      · exact .inl (.inr q)
theorem secs_ok (h : Right (A ++ s :: v :: B)) (hr : ∀ x ∈ readsS v.s, x ∉ namesDS s) : issuesM ((A ++ v :: s :: B).map DS.s) = [] := right_told (secs_right h hr)
theorem secs_told (h : Right (A ++ s :: v :: B)) {x : Str} (hx : x ∈ readsS v.s) (hs : x ∈ namesDS s) : issuesM ((A ++ v :: s :: B).map DS.s) ≠ [] := by
  have nd0 := h.nd
  rw [namesD_app] at nd0
  obtain ⟨_, n2, n3⟩ := List.nodup_append.mp nd0
  have n2 : (namesDS s ++ (namesDS v ++ namesD B)).Nodup := n2
  have t : secIss (svFold sv0 (A.map DS.s)) v.s ≠ [] := by
    refine secIss_told (fun q => ?_) (fun q => ?_) hx
    · rcases avV_fold q with q | q
      · exact avV_zero q
      · rw [allNames_s] at q
        exact n3 _ q _ (by show _ ∈ namesDS s ++ _; exact List.mem_append_left _ hs) rfl
    · rw [namesS_s] at q
      exact (List.nodup_append.mp n2).2.2 _ hs _ (List.mem_append_left _ q) rfl
  intro e
  rw [List.map_append, List.map_cons] at e
  obtain ⟨_, e⟩ := List.append_eq_nil_iff.mp e
  rw [formIss_app, formIss_cons] at e
  exact t (List.append_eq_nil_iff.mp (List.append_eq_nil_iff.mp e).2).1

def again (n : Str) : Fld := ⟨n, none, .q .truth false⟩
theorem twice_told (h : Right (A ++ [s])) {n : Str} (hn : n ∈ keysD (A ++ [s])) :
    issuesM (A.map DS.s ++ [⟨s.name, s.cond, s.most, s.fs.map (·.1) ++ [again n]⟩]) = [(n, Is.twice)] := by
  have e0 := right_told h
  unfold issuesM at e0 ⊢
  obtain ⟨_, e1⟩ := List.append_eq_nil_iff.mp e0
  have en : allNames (A.map DS.s ++ [⟨s.name, s.cond, s.most, s.fs.map (·.1) ++ [again n]⟩]) = namesD (A ++ [s]) ++ [n] := by
    have z : allNames (A.map DS.s ++ [⟨s.name, s.cond, s.most, s.fs.map (·.1) ++ [again n]⟩]) = allNames (A.map DS.s) ++ allNames [⟨s.name, s.cond, s.most, s.fs.map (·.1) ++ [again n]⟩] := List.flatMap_append
    rw [z, allNames_s, namesD_app, List.append_assoc]
    refine congrArg _ ?_
    simp [allNames, namesS, namesD, namesDS, again, List.map_map, Function.comp_def]
  rw [en, twice_one h.nd ((keys_sub _).subset hn)]
  rw [List.map_append, formIss_app, List.map_cons, formIss_cons] at e1
  obtain ⟨e2, e3⟩ := List.append_eq_nil_iff.mp e1
  have e3 := (List.append_eq_nil_iff.mp e3).1
  rw [secIss_eq] at e3
  obtain ⟨e4, e5⟩ := List.append_eq_nil_iff.mp e3
  rw [formIss_app, formIss_cons, e2, secIss_eq, formIss_nil]
  have e5 : (fldsM (svFold sv0 (A.map DS.s)) s.rep [] (s.fs.map (·.1))).flatMap (fun p => fieldIss p.2 p.1) = [] := e5
  have e4 : (if isNo (scopeM (svFold sv0 (A.map DS.s)) false []) s.cond .truth = true then [(s.name, Is.condition)] else []) = [] := e4
  show [(n, Is.twice)] ++ ([] ++ ((if isNo (scopeM (svFold sv0 (A.map DS.s)) false []) s.cond .truth = true then [(s.name, Is.condition)] else []) ++ (fldsM (svFold sv0 (A.map DS.s)) s.rep [] (s.fs.map (·.1) ++ [again n])).flatMap (fun p => fieldIss p.2 p.1) ++ [])) = _
  rw [e4, fldsM_app, List.flatMap_append, e5]
  rfl
theorem less_secs (h : Right (A ++ [s])) : Right A := by
  refine ⟨(OKD_app.mp h.ok).1, ?_⟩
  have := h.nd
  rw [namesD_app] at this
  exact (List.nodup_append.mp this).1
theorem less_flds (h : Right (A ++ [s])) (e : s.fs = P ++ [u]) : Right (A ++ [s.mk' P]) := by
  obtain ⟨hA, ⟨hc, hf⟩, _⟩ := OKD_app.mp h.ok
  refine ⟨OKD_app.mpr ⟨hA, ⟨hc, ?_⟩, trivial⟩, ?_⟩
  · have hf : OKFs ([] ++ A) s.rep [] (P ++ [u]) := e ▸ hf
    exact (OKFs_app.mp hf).1
  · have n := h.nd
    refine List.Sublist.nodup ?_ n
    rw [namesD_app, namesD_app]
    refine List.Sublist.append_left ?_ _
    show (s.name :: P.map (fun f : DF => f.1.name) ++ []).Sublist (s.name :: s.fs.map (fun f : DF => f.1.name) ++ [])
    rw [e, List.map_append, List.append_nil, List.append_nil]
    exact List.Sublist.cons_cons _ (List.sublist_append_left _ _)
end
end FF
/-! The text by places, what stands in the heap, calls by what is promised. -/
namespace FF
open PySem L2

def top (i : Nat) : Stmt := PySem.Challenge.pw_formflow_k22_order_of_places.main.body.getD i (.Pass ⟨0, 0, 0, 0⟩)

/-! ### heaps -/
/-- all but what stands at l is as it was -/
def But (l : Addr) (H H' : Hp) : Prop := ∀ b o, b ≠ l → H b = some o → H' b = some o
/-- the tuples stay -/
def Tm (H H' : Hp) : Prop := ∀ a xs, H a = some (.tup xs) → H' a = some (.tup xs)
theorem Tm.refl (H : Hp) : Tm H H := fun _ _ h => h
theorem Tm.trans {H H1 H2 : Hp} (a : Tm H H1) (b : Tm H1 H2) : Tm H H2 := fun x xs h => b x xs (a x xs h)
theorem tm_same {H H' : Hp} (s : Same H H') : Tm H H' := fun a xs h => s a _ h
theorem tm_but {H H' : Hp} {l : Addr} (s : But l H H') (n : ∀ xs, H l ≠ some (.tup xs)) : Tm H H' := fun a xs h => s a _ (fun e => n xs (e ▸ h)) h
theorem tm_lst {H H' : Hp} {l : Addr} {ys : List V} (s : But l H H') (n : H l = some (.lst ys)) : Tm H H' := tm_but s fun xs e => by rw [n] at e; cases e
theorem tm_dK {H H' : Hp} {l : Addr} {ys : List (Key × V)} (s : But l H H') (n : H l = some (.dK ys)) : Tm H H' := tm_but s fun xs e => by rw [n] at e; cases e
theorem tm_ins {H H' : Hp} {l C dx : Addr} {ys : List (Str × V)} (s : But l H H') (n : H l = some (.ins C dx ys)) : Tm H H' := tm_but s fun xs e => by rw [n] at e; cases e
theorem same_upd {H : Hp} {p : Addr} {o : HO} (h : H p = none) : Same H (upd H p o) := fun b u q => by rw [upd_ne (ne_of_none q h)]; exact q
theorem but_upd {H : Hp} {p : Addr} {o : HO} : But p H (upd H p o) := fun b u n q => by rw [upd_ne n]; exact q
theorem But.of_same {H H' : Hp} {l : Addr} (s : Same H H') : But l H H' := fun b o _ h => s b o h
theorem But.trans {H H1 H2 : Hp} {l : Addr} (a : But l H H1) (b : But l H1 H2) : But l H H2 := fun x o n h => b x o n (a x o n h)
/-- what is changed was not there at first -/
theorem same_but {H0 H H' : Hp} {l : Addr} (s : Same H0 H) (b : But l H H') (n : H0 l = none) : Same H0 H' := fun x o h => b x o (ne_of_none h n) (s x o h)
theorem But.but {H0 H H' : Hp} {l p : Addr} (s : But p H0 H) (b : But l H H') (n : H0 l = none) : But p H0 H' := fun x o m h => b x o (ne_of_none h n) (s x o m h)
/-- a new object: what follows needs only to know that it stands and that the rest stays -/
theorem new_at {H : Hp} {o : HO} {Q : V → Hp → Prop} (h : ∀ p H', H p = none → Same H H' → H' p = some o → Q (.ref p) H') : ∀ p, H p = none → Q (.ref p) (upd H p o) :=
  fun p np => h p _ np (same_upd np) upd_same
theorem put_at {H : Hp} {l : Addr} {o : HO} {Q : Hp → Prop} (h : ∀ H', But l H H' → H' l = some o → Q H') : Q (upd H l o) := h _ but_upd upd_same
theorem sq_tup {K : PySem.W.Frag} {H : Hp} {a : Addr} {xs : List V} (h : H a = some (.tup xs)) : SqT K H a xs := SqT.of h
theorem lt_line {n : Nat} (h : n ≤ 100000) : n < sizeLine := Nat.lt_of_le_of_lt h (by decide)
theorem le_line {n : Nat} (h : n ≤ 100000) : n ≤ sizeLine := Nat.le_of_lt (lt_line h)

/-! ### kinds, functions, signs as texts -/
def Kd.z : Kd → Str
  | .truth => "truth" | .number => "number" | .option => "option" | .options => "options" | .text => "text"
def Fn.z : Fn → Str
  | .answered => "answered" | .count => "count" | .sum => "sum" | .least => "least" | .greatest => "greatest" | .any => "any" | .all => "all"
def Sg.z : Sg → Str
  | .or => "or" | .and => "and" | .eq => "=" | .ne => "<>" | .lt => "<" | .ge => ">=" | .add => "+" | .sub => "-" | .mul => "*" | .els => "??"
def Is.z : Is → Str
  | .twice => "twice" | .condition => "condition" | .bound => "bound" | .options => "options" | .formula => "formula" | .rule => "rule"
def oV : Option Kd → V
  | none => .non
  | some k => .str k.z
theorem kz_inj : ∀ a b : Kd, a.z = b.z → a = b := by
  intro a b h
  cases a <;> cases b <;> first | rfl | (exact absurd h (by decide +kernel))
theorem isz_inj : ∀ a b : Is, a.z = b.z → a = b := by
  intro a b h
  cases a <;> cases b <;> first | rfl | (exact absurd h (by decide +kernel))
theorem oV_inj {a b : Option Kd} (h : oV a = oV b) : a = b := by
  cases a with
  | none => cases b with
    | none => rfl
    | some y => cases h
  | some x => cases b with
    | none => cases h
    | some y =>
      have e : x.z = y.z := by injection h
      rw [kz_inj x y e]

/-! ### what stands in the heap -/
def ExAt (H : Hp) : Ex → V → Prop
  | .nam x, v => ∃ a, v = .ref a ∧ H a = some (.tup [.str "name", .str x])
  | .ask f x, v => ∃ a, v = .ref a ∧ H a = some (.tup [.str "ask", .str f.z, .str x])
  | .has x o, v => ∃ a, v = .ref a ∧ H a = some (.tup [.str "has", .str x, .str o])
  | .row, v => ∃ a, v = .ref a ∧ H a = some (.tup [.str "row"])
  | .num n, v => ∃ a, v = .ref a ∧ H a = some (.tup [.str "number", .int n])
  | .opt o, v => ∃ a, v = .ref a ∧ H a = some (.tup [.str "option", .str o])
  | .not e, v => ∃ a x, v = .ref a ∧ H a = some (.tup [.str "not", x]) ∧ ExAt H e x
  | .op g e f, v => ∃ a x y, v = .ref a ∧ H a = some (.tup [.str "op", .str g.z, x, y]) ∧ ExAt H e x ∧ ExAt H f y
  | .ite c e f, v => ∃ a z x y, v = .ref a ∧ H a = some (.tup [.str "if", z, x, y]) ∧ ExAt H c z ∧ ExAt H e x ∧ ExAt H f y
theorem ExAt.tm {H H' : Hp} (t : Tm H H') : ∀ {e : Ex} {v : V}, ExAt H e v → ExAt H' e v
  | .nam _, _, ⟨a, e, h⟩ => ⟨a, e, t a _ h⟩
  | .ask _ _, _, ⟨a, e, h⟩ => ⟨a, e, t a _ h⟩
  | .has _ _, _, ⟨a, e, h⟩ => ⟨a, e, t a _ h⟩
  | .row, _, ⟨a, e, h⟩ => ⟨a, e, t a _ h⟩
  | .num _, _, ⟨a, e, h⟩ => ⟨a, e, t a _ h⟩
  | .opt _, _, ⟨a, e, h⟩ => ⟨a, e, t a _ h⟩
  | .not _, _, ⟨a, x, e, h, h1⟩ => ⟨a, x, e, t a _ h, ExAt.tm t h1⟩
  | .op _ _ _, _, ⟨a, x, y, e, h, h1, h2⟩ => ⟨a, x, y, e, t a _ h, ExAt.tm t h1, ExAt.tm t h2⟩
  | .ite _ _ _, _, ⟨a, z, x, y, e, h, h0, h1, h2⟩ => ⟨a, z, x, y, e, t a _ h, ExAt.tm t h0, ExAt.tm t h1, ExAt.tm t h2⟩
theorem ExAt.ref {H : Hp} : ∀ {e : Ex} {v : V}, ExAt H e v → ∃ a xs, v = .ref a ∧ H a = some (.tup xs)
  | .nam _, _, ⟨a, e, h⟩ => ⟨a, _, e, h⟩
  | .ask _ _, _, ⟨a, e, h⟩ => ⟨a, _, e, h⟩
  | .has _ _, _, ⟨a, e, h⟩ => ⟨a, _, e, h⟩
  | .row, _, ⟨a, e, h⟩ => ⟨a, _, e, h⟩
  | .num _, _, ⟨a, e, h⟩ => ⟨a, _, e, h⟩
  | .opt _, _, ⟨a, e, h⟩ => ⟨a, _, e, h⟩
  | .not _, _, ⟨a, x, e, h, h1⟩ => ⟨a, _, e, h⟩
  | .op _ _ _, _, ⟨a, x, y, e, h, h1, h2⟩ => ⟨a, _, e, h⟩
  | .ite _ _ _, _, ⟨a, z, x, y, e, h, h0, h1, h2⟩ => ⟨a, _, e, h⟩
def OxAt (H : Hp) (o : Option Ex) (v : V) : Prop := match o with
  | none => v = .non
  | some e => ExAt H e v
theorem OxAt.tm {H H' : Hp} (t : Tm H H') {o : Option Ex} {v : V} (h : OxAt H o v) : OxAt H' o v := by
  cases o with
  | none => exact h
  | some e => exact ExAt.tm t h
/-- two lists, item by item -/
def All2 {α β : Type} (P : α → β → Prop) : List α → List β → Prop
  | [], [] => True
  | a :: as, b :: bs => P a b ∧ All2 P as bs
  | _, _ => False
theorem All2.len {α β : Type} {P : α → β → Prop} : ∀ {as : List α} {bs : List β}, All2 P as bs → as.length = bs.length
  | [], [], _ => rfl
  | a :: as, b :: bs, h => congrArg (· + 1) (All2.len h.2)
theorem All2.imp {α β : Type} {P Q : α → β → Prop} (f : ∀ a b, P a b → Q a b) : ∀ {as : List α} {bs : List β}, All2 P as bs → All2 Q as bs
  | [], [], _ => trivial
  | a :: as, b :: bs, h => ⟨f a b h.1, All2.imp f h.2⟩
theorem All2.app {α β : Type} {P : α → β → Prop} : ∀ {as cs : List α} {bs ds : List β}, All2 P as bs → All2 P cs ds → All2 P (as ++ cs) (bs ++ ds)
  | [], _, [], _, _, k => k
  | a :: as, _, b :: bs, _, h, k => ⟨h.1, All2.app h.2 k⟩
theorem All2.get {α β : Type} {P : α → β → Prop} : ∀ {as : List α} {bs : List β}, All2 P as bs → ∀ {i : Nat} {a : α}, as[i]? = some a → ∃ b, bs[i]? = some b ∧ P a b
  | [], [], _, i, a, e => by simp at e
  | x :: as, y :: bs, h, 0, a, e => by
    have e : x = a := by simpa using e
    subst e
    exact ⟨y, rfl, h.1⟩
  | x :: as, y :: bs, h, i + 1, a, e => by
    obtain ⟨b, e1, e2⟩ := All2.get h.2 (i := i) (a := a) (by simpa using e)
    exact ⟨b, by simpa using e1, e2⟩
theorem All2.getR {α β : Type} {P : α → β → Prop} : ∀ {as : List α} {bs : List β}, All2 P as bs → ∀ {i : Nat} {b : β}, bs[i]? = some b → ∃ a, as[i]? = some a ∧ P a b
  | [], [], _, i, a, e => by simp at e
  | x :: as, y :: bs, h, 0, b, e => by
    have e : y = b := by simpa using e
    subst e
    exact ⟨x, rfl, h.1⟩
  | x :: as, y :: bs, h, i + 1, b, e => by
    obtain ⟨a, e1, e2⟩ := All2.getR h.2 (i := i) (b := b) (by simpa using e)
    exact ⟨a, by simpa using e1, e2⟩
theorem All2.take {α β : Type} {P : α → β → Prop} : ∀ {as : List α} {bs : List β} (n : Nat), All2 P as bs → All2 P (as.take n) (bs.take n)
  | [], [], n, _ => by simp [All2]
  | a :: as, b :: bs, 0, h => trivial
  | a :: as, b :: bs, n + 1, h => ⟨h.1, All2.take n h.2⟩
theorem All2.drop {α β : Type} {P : α → β → Prop} : ∀ {as : List α} {bs : List β} (n : Nat), All2 P as bs → All2 P (as.drop n) (bs.drop n)
  | [], [], n, _ => by simp [All2]
  | a :: as, b :: bs, 0, h => h
  | a :: as, b :: bs, n + 1, h => All2.drop n h.2

def OpAt (H : Hp) (v : V) (p : Str × Option Ex) : Prop := ∃ a x, v = .ref a ∧ H a = some (.tup [.str p.1, x]) ∧ OxAt H p.2 x
def multiZ : Bool → Str
  | false => "choice"
  | true => "choices"
def QkAt (H : Hp) (q : Qk) (v : V) : Prop := match q with
  | .truth => ∃ a, v = .ref a ∧ H a = some (.tup [.str "truth"])
  | .text => ∃ a, v = .ref a ∧ H a = some (.tup [.str "text", .int 3])
  | .integer lo hi => ∃ a x y, v = .ref a ∧ H a = some (.tup [.str "integer", x, y]) ∧ OxAt H lo x ∧ OxAt H hi y
  | .opts m os => ∃ a b vs, v = .ref a ∧ H a = some (.tup [.str (multiZ m), .ref b]) ∧ H b = some (.tup vs) ∧ All2 (OpAt H) vs os ∧ (os.map (·.1)).Nodup ∧ os.length ≤ 5
def FldAt (H : Hp) (v : V) (f : Fld) : Prop := match f.body with
  | .q k r => ∃ a x y, v = .ref a ∧ H a = some (.tup [.str "question", .str f.name, x, y, .bl r]) ∧ OxAt H f.cond x ∧ QkAt H k y
  | .fm e => ∃ a x y, v = .ref a ∧ H a = some (.tup [.str "formula", .str f.name, x, y]) ∧ OxAt H f.cond x ∧ ExAt H e y
  | .rl e b => ∃ a x y, v = .ref a ∧ H a = some (.tup [.str "rule", .str f.name, x, y, .str "no", .bl b]) ∧ OxAt H f.cond x ∧ ExAt H e y
def SctAt (H : Hp) (v : V) (s : Sct) : Prop := ∃ a x b vs, v = .ref a ∧ H a = some (.tup [.str s.name, x, .int s.most, .ref b]) ∧ OxAt H s.cond x ∧ H b = some (.tup vs) ∧ All2 (FldAt H) vs s.fields
def FrmAt (H : Hp) (v : V) (F : List Sct) : Prop := ∃ a vs, v = .ref a ∧ H a = some (.tup vs) ∧ All2 (SctAt H) vs F
section
variable {H H' : Hp}
theorem OpAt.tm (t : Tm H H') {v : V} {p : Str × Option Ex} (h : OpAt H v p) : OpAt H' v p := by
  obtain ⟨a, x, e, h1, h2⟩ := h
  exact ⟨a, x, e, t a _ h1, h2.tm t⟩
theorem QkAt.tm (t : Tm H H') {q : Qk} {v : V} (h : QkAt H q v) : QkAt H' q v := by
  cases q with
  | truth => obtain ⟨a, e, h⟩ := h; exact ⟨a, e, t a _ h⟩
  | text => obtain ⟨a, e, h⟩ := h; exact ⟨a, e, t a _ h⟩
  | integer lo hi => obtain ⟨a, x, y, e, h, h1, h2⟩ := h; exact ⟨a, x, y, e, t a _ h, h1.tm t, h2.tm t⟩
  | opts m os => obtain ⟨a, b, vs, e, h, h1, h2, h3⟩ := h; exact ⟨a, b, vs, e, t a _ h, t b _ h1, h2.imp fun _ _ q => q.tm t, h3⟩
theorem FldAt.tm (t : Tm H H') {v : V} {f : Fld} (h : FldAt H v f) : FldAt H' v f := by
  unfold FldAt at h ⊢
  cases hb : f.body with
  | q k r => rw [hb] at h; obtain ⟨a, x, y, e, h, h1, h2⟩ := h; exact ⟨a, x, y, e, t a _ h, h1.tm t, h2.tm t⟩
  | fm e => rw [hb] at h; obtain ⟨a, x, y, e, h, h1, h2⟩ := h; exact ⟨a, x, y, e, t a _ h, h1.tm t, h2.tm t⟩
  | rl e b => rw [hb] at h; obtain ⟨a, x, y, e, h, h1, h2⟩ := h; exact ⟨a, x, y, e, t a _ h, h1.tm t, h2.tm t⟩
theorem SctAt.tm (t : Tm H H') {v : V} {s : Sct} (h : SctAt H v s) : SctAt H' v s := by
  obtain ⟨a, x, b, vs, e, h, h1, h2, h3⟩ := h
  exact ⟨a, x, b, vs, e, t a _ h, h1.tm t, t b _ h2, h3.imp fun _ _ q => q.tm t⟩
theorem FrmAt.tm (t : Tm H H') {v : V} {F : List Sct} (h : FrmAt H v F) : FrmAt H' v F := by
  obtain ⟨a, vs, e, h, h1⟩ := h
  exact ⟨a, vs, e, t a _ h, h1.imp fun _ _ q => q.tm t⟩
end

/-! ### dicts and scopes -/
def DiK (H : Hp) (d : Addr) (g : Str → Option Kd) (n : Nat) : Prop := ∃ kvs : List (Key × V), H d = some (.dK kvs) ∧ kvs.length ≤ n ∧ ∀ x : Str, valV kvs (.inr x) = (g x).map fun k => V.str k.z
def DiS (H : Hp) (d : Addr) (g : Str → Bool) (n : Nat) : Prop := ∃ kvs : List (Key × V), H d = some (.dK kvs) ∧ kvs.length ≤ n ∧ ∀ x : Str, valV kvs (.inr x) = if g x = true then some (.bl true) else none
theorem DiK.same {H H' : Hp} (s : Same H H') {d : Addr} {g : Str → Option Kd} {n : Nat} (h : DiK H d g n) : DiK H' d g n := by
  obtain ⟨kvs, h1, h2⟩ := h
  exact ⟨kvs, s _ _ h1, h2⟩
theorem DiS.same {H H' : Hp} (s : Same H H') {d : Addr} {g : Str → Bool} {n : Nat} (h : DiS H d g n) : DiS H' d g n := by
  obtain ⟨kvs, h1, h2⟩ := h
  exact ⟨kvs, s _ _ h1, h2⟩
def scF (n o m : Addr) (r : Bool) : List (Str × V) := [("names", .ref n), ("over", .ref o), ("sections", .ref m), ("has_row", .bl r)]
def svF (n o m : Addr) : List (Str × V) := [("names", .ref n), ("over", .ref o), ("sections", .ref m)]
def ScAt (C : Addr) (H : Hp) (p : Addr) (s : Sc) : Prop := ∃ dx n o m, H p = some (.ins C dx (scF n o m s.row)) ∧ DiK H n s.names 100 ∧ DiK H o s.over 100 ∧ DiS H m s.secs 100
theorem ScAt.same {C : Addr} {H H' : Hp} (t : Same H H') {p : Addr} {s : Sc} (h : ScAt C H p s) : ScAt C H' p s := by
  obtain ⟨dx, n, o, m, h1, h2, h3, h4⟩ := h
  exact ⟨dx, n, o, m, t _ _ h1, h2.same t, h3.same t, h4.same t⟩

/-! ### what the top has written -/
structure Txt (K : PySem.W.Frag) (mg : Str → Option Value) (w : World) (cSc cSv aW aP aN aO aA : Addr) : Prop where
  len : mg "len" = none
  int : mg "int" = none
  str : mg "str" = none
  list : mg "list" = none
  tuple : mg "tuple" = none
  dict : mg "dict" = none
  set : mg "set" = none
  range : mg "range" = none
  enumerate : mg "enumerate" = none
  bounded : ∃ t, mg "BOUNDED" = some (.str "integer" t)
  mW : mg "WITH_OPTIONS" = some (.ref aW)
  qW : ∀ H, SqT K H aW [.str "choice", .str "choices"]
  mP : mg "PLAIN_KINDS" = some (.ref aP)
  qP : ∀ H, SqT K H aP [.str "truth", .str "number", .str "option"]
  mN : mg "NUMBER_SIGNS" = some (.ref aN)
  qN : ∀ H, SqT K H aN [.str "+", .str "-", .str "*"]
  mO : mg "ORDER_SIGNS" = some (.ref aO)
  qO : ∀ H, SqT K H aO [.str "<", .str "<=", .str ">", .str ">="]
  mA : mg "ANSWER_KINDS" = some (.ref aA)
  kTruth : KDct K w aA "truth" (.str "truth")
  kInteger : KDct K w aA "integer" (.str "number")
  kChoice : KDct K w aA "choice" (.str "option")
  kChoices : KDct K w aA "choices" (.str "options")
  kText : KDct K w aA "text" (.str "text")
  cl_Scope : Cls K cSc
  n1 : NoAttr K cSc "names"
  n2 : NoAttr K cSc "over"
  n3 : NoAttr K cSc "sections"
  n4 : NoAttr K cSc "has_row"
  cl_Survey : Cls K cSv
  v1 : NoAttr K cSv "names"
  v2 : NoAttr K cSv "over"
  v3 : NoAttr K cSv "sections"
theorem glS {X : Cx} {x z : Str} {pos : Pos} (h : ∃ t, X.mg x = some (.str z t)) (hg : Gl X x) (hd : (x == ("__debug__" : Str)) = false := by decide) : PE X (.Name x pos) (tC (.str z)) := by
  obtain ⟨t, h⟩ := h
  exact pe_glob hg h ⟨t, rfl⟩ hd

/-! ### calls by promises -/
structure Has (P : Program) (w : World) (K : PySem.W.Frag) (mg : Str → Option Value) (base : Heap) (x : Str) (k : Nat) (ps : List Str) (sp : Sp) : Prop where
  ex : ∃ (f : Addr) (fd : FuncData), FnOk P w K mg base CX0 k f fd ps sp ∧ mg x = some (.ref f) ∧ PySem.W.keepIn K (.ref f) = true ∧ Binds K fd ps []
structure HasM (P : Program) (w : World) (K : PySem.W.Frag) (mg : Str → Option Value) (base : Heap) (C : Addr) (m : Str) (k : Nat) (ps : List Str) (sp : Sp) : Prop where
  ex : ∃ (f : Addr) (fd : FuncData), FnOk P w K mg base CX0 k f fd ps sp ∧ Meth K C m f ∧ Binds K fd ps []
structure HasC (P : Program) (w : World) (K : PySem.W.Frag) (mg : Str → Option Value) (base : Heap) (C : Addr) (x : Str) (k : Nat) (ps : List Str) (sp : Sp) : Prop where
  ex : ∃ (f : Addr) (fd : FuncData), FnOk P w K mg base CX0 k f fd ps sp ∧ Mk K C f ∧ mg x = some (.ref C) ∧ Binds K fd ps []
section
variable {X : Cx} {x m : Str} {k : Nat} {ps : List Str} {sp : Sp} {e o : Expr} {es : List Expr} {t : TA} {ta : TE} {C : Addr} {p pos apos : Pos}
theorem pe_callH (G : Has X.prog X.w X.K X.mg X.base x k ps sp) (hr : Room k X.A) (hg : Gl X x) (ha : PA X (e :: es) t) (hdb : (x == ("__debug__" : Str)) = false := by decide)
    (he : starEach (e :: es) X.env = (false, eval e X.env) :: starEach es X.env := by rfl) (hpl : (backTo pos (starEach es X.env)).any (·.1) = false := by rfl) : PE X (.Call (.Name x p) (e :: es) [] pos) (tCall sp [] E0 t) := by
  obtain ⟨f, fd, F, hm, hk, hb⟩ := G.ex
  exact pe_call F hr hg hm hk hb .nil pass0 ha hdb he hpl
theorem pe_makeH (G : HasC X.prog X.w X.K X.mg X.base C x k ps sp) (hr : Room (k + 1) X.A) (hg : Gl X x) (hdb : (x == ("__debug__" : Str)) = false := by decide) : PE X (.Call (.Name x p) [] [] pos) (tMake C sp [] E0 tNil) := by
  obtain ⟨f, fd, F, hM, hm, hb⟩ := G.ex
  exact pe_make0 hM F hr hg hm hb .nil pass0 hdb
theorem pe_methH {pl : Sem Bool} (he : PE X o ta) (c : Cls X.K C) (G : HasM X.prog X.w X.K X.mg X.base C m k ps sp) (hr : Room k X.A) (ha : PA X (e :: es) t)
    (hst : starEach (e :: es) X.env = (false, eval e X.env) :: starEach es X.env := by rfl) (hpl : (backTo pos (starEach es X.env)).any (·.1) = false := by rfl)
    (ht : eval (.Call (.Attribute o m apos) (e :: es) [] pos) X.env = (do
      let v ← eval o X.env
      standAt apos.atName
      let (g, first) ← holding [v] (getMethod v m pl)
      callWith pos g first (backTo pos (starEach (e :: es) X.env)) (backToKw pos (keywordEach [] X.env))) := by rfl) :
    PE X (.Call (.Attribute o m apos) (e :: es) [] pos) (tMeth C m sp [] E0 ta t) := by
  obtain ⟨f, fd, F, hm, hb⟩ := G.ex
  exact pe_meth (pl := pl) he c hm F hr hb .nil pass0 ha hst hpl ht
end
/-- dict(d) -/
theorem call_dictC {X : Cx} : CallR X (.type "dict") (fun xs H Q => ∃ (a : Addr) (kvs : List (Key × V)), xs = [.ref a] ∧ H a = some (.dK kvs) ∧ ∀ p, H p = none → Q (.ref p) (upd H p (.dK kvs))) := by
  intro pins s σ H xs us Q I r h
  obtain ⟨a, kvs, rfl, ha, q⟩ := h
  obtain ⟨u, rfl, ru⟩ := vals1 r
  cases ru
  exact d_copyOf I (.inl ha) fun p s' np I' => ⟨.ref p, _, I', rfl, q p np⟩
end FF
/-! The layer's rules once more, with readings that name the heap behind. -/
namespace FF
open PySem L2
section
variable {X : Cx} {e a b o i value : Expr} {es : List Expr} {t t' te ta tb td ty tv to : TE} {pos pos' cpos apos : Pos}
def wkE (t : TE) : TE := fun σ H Q => ∃ Q' : VK, t σ H Q' ∧ ∀ v H', Q' v H' → Q v H'
def wkA (t : TA) : TA := fun σ H Q => ∃ Q' : List V → Hp → Prop, t σ H Q' ∧ ∀ v H', Q' v H' → Q v H'
theorem pe_weak (h : PE X e t) : PE X e (wkE t) := ⟨fun pins s σ H Q I ⟨Q', h1, h2⟩ => thn (h.run pins s σ H Q' I h1) fun u s1 ⟨v, H1, I1, r, q⟩ => ⟨v, H1, I1, r, h2 _ _ q⟩⟩
theorem pa_weak {t : TA} (h : PA X es t) : PA X es (wkA t) := ⟨fun pos pins s σ H Q I ⟨Q', h1, h2⟩ => thn (h.run pos pins s σ H Q' I h1) fun u s1 ⟨v, H1, I1, r, q⟩ => ⟨v, H1, I1, r, h2 _ _ q⟩⟩
theorem pe_imp (h : PE X e t) (f : ∀ σ H Q, t' σ H Q → t σ H Q) : PE X e t' := ⟨fun pins s σ H Q I q => h.run pins s σ H Q I (f σ H Q q)⟩
theorem op_imp {f : Value → Value → Sem Value} {r r' : R2} (h : OpR X f r) (k : ∀ x y H Q, r' x y H Q → r x y H Q) : OpR X f r' := fun pins s σ H x y v u Q I rx ry q => h pins s σ H x y v u Q I rx ry (k _ _ _ _ q)
theorem call_imp {f : Value} {r r' : List V → Hp → VK → Prop} (h : CallR X f r) (k : ∀ xs H Q, r' xs H Q → r xs H Q) : CallR X f r' := fun pins s σ H xs us Q I rx q => h pins s σ H xs us Q I rx (k _ _ _ q)
theorem mt_imp {f : String} {r r' : V → List V → Hp → VK → Prop} (h : MtR X f r) (k : ∀ x xs H Q, r' x xs H Q → r x xs H Q) : MtR X f r' := fun pins s σ H x xs v us Q I rx ry q => h pins s σ H x xs v us Q I rx ry (k _ _ _ _ q)

/-- displays -/
def uTup (t : TA) : TE := fun σ H Q => t σ H fun xs H1 => xs.length ≤ sizeLine ∧ ∀ p H', H1 p = none → Same H1 H' → H' p = some (.tup xs) → Q (.ref p) H'
def uLst (t : TA) : TE := fun σ H Q => t σ H fun xs H1 => xs.length ≤ sizeLine ∧ ∀ p H', H1 p = none → Same H1 H' → H' p = some (.lst xs) → Q (.ref p) H'
theorem pe_tupN {t : TA} {k} (h : PA X es t) : PE X (.Tuple es k pos) (uTup t) :=
  pe_imp (pe_tup (pa_weak h)) fun _ _ _ q => ⟨_, q, fun _ _ z => ⟨z.1, fun p np => z.2 p _ np (same_upd np) upd_same⟩⟩
theorem pe_lstN {t : TA} (h : PA X es t) : PE X (.List es pos) (uLst t) :=
  pe_imp (pe_lst (pa_weak h)) fun _ _ _ q => ⟨_, q, fun _ _ z => ⟨z.1, fun p np => z.2 p _ np (same_upd np) upd_same⟩⟩
def uDNew : TE := fun _ H Q => ∀ p H', H p = none → Same H H' → H' p = some (.dK []) → Q (.ref p) H'
theorem pe_dnewN : PE X (.Dict [] [] pos) uDNew := pe_imp pe_dnewK fun _ _ _ q p np => q p _ np (same_upd np) upd_same

/-- sums of lists, of tuples -/
def uCat : R2 := fun x y H Q => ∃ l b xs zs, x = .ref l ∧ y = .ref b ∧ H l = some (.lst xs) ∧ H b = some (.lst zs) ∧ xs.length + zs.length ≤ sizeLine ∧ ∀ p H', H p = none → Same H H' → H' p = some (.lst (xs ++ zs)) → Q (.ref p) H'
theorem op_catN : OpR X (binaryOp .Add) uCat := op_imp op_cat fun _ _ _ _ ⟨l, b, xs, zs, e1, e2, h1, h2, h3, q⟩ => ⟨l, b, xs, zs, e1, e2, h1, h2, h3, fun p np => q p _ np (same_upd np) upd_same⟩
def uCatT : R2 := fun x y H Q => ∃ a b xs ys, x = .ref a ∧ y = .ref b ∧ H a = some (.tup xs) ∧ H b = some (.tup ys) ∧ xs.length + ys.length ≤ sizeLine ∧ ∀ p H', Same H H' → H' p = some (.tup (xs ++ ys)) → Q (.ref p) H'
theorem op_catAN : OpR X (binaryOp .Add) uCatT := op_imp op_catA fun _ _ H _ ⟨a, b, xs, ys, e1, e2, h1, h2, h3, q⟩ =>
  ⟨a, b, xs, ys, e1, e2, sq_tup h1, sq_tup h2, h3, fun n => q b H (Same.refl _) (by rw [h2, n]; rfl), fun _ n => q a H (Same.refl _) (by rw [h1, n, List.append_nil]), fun _ _ p np => q p _ (same_upd np) upd_same⟩
/-- slices -/
def uSlL (K : PySem.W.Frag) : V → Option Int → Option Int → Hp → VK → Prop := fun x lo hi H Q => ∃ a xs, x = .ref a ∧ SqL K H a xs ∧ ∀ p H', H p = none → Same H H' → H' p = some (.lst (cutV xs lo hi)) → Q (.ref p) H'
theorem sl_listN : SlR X (uSlL X.K) := fun pins s σ H x v vl vu lo hi sl Q I rx hs pl pu ⟨a, xs, e1, h, q⟩ => sl_list pins s σ H x v vl vu lo hi sl Q I rx hs pl pu ⟨a, xs, e1, h, fun p np => q p _ np (same_upd np) upd_same⟩
theorem cut_all {xs : List V} {lo hi : Option Int} (w : HT.sIx xs.length 0 lo = 0 ∧ HT.sIx xs.length xs.length hi = xs.length) : cutV xs lo hi = xs := by
  unfold cutV
  rw [w.1, w.2]
  simp
def uSlT : V → Option Int → Option Int → Hp → VK → Prop := fun x lo hi H Q => ∃ a xs, x = .ref a ∧ H a = some (.tup xs) ∧ ∀ p H', Same H H' → H' p = some (.tup (cutV xs lo hi)) → Q (.ref p) H'
theorem sl_tupN : SlR X uSlT := fun pins s σ H x v vl vu lo hi sl Q I rx hs pl pu ⟨a, xs, e1, h, q⟩ => sl_tupA pins s σ H x v vl vu lo hi sl Q I rx hs pl pu
  ⟨a, xs, e1, sq_tup h, fun w => q a H (Same.refl _) (by rw [cut_all w]; exact h), fun _ p np => q p _ (same_upd np) upd_same⟩
/-- methods of lists -/
def uAppend : V → List V → Hp → VK → Prop := fun x vs H Q => ∃ l xs y, x = .ref l ∧ vs = [y] ∧ H l = some (.lst xs) ∧ xs.length < sizeLine ∧ ∀ H', But l H H' → H' l = some (.lst (xs ++ [y])) → Q .non H'
theorem mt_appendN : MtR X "list.append" uAppend := mt_imp mt_append fun _ _ _ _ ⟨l, xs, y, e1, e2, h1, h2, q⟩ => ⟨l, xs, y, e1, e2, h1, h2, q _ but_upd upd_same⟩
def uExtend : V → List V → Hp → VK → Prop := fun x vs H Q => ∃ l b xs zs, x = .ref l ∧ vs = [.ref b] ∧ H l = some (.lst xs) ∧ H b = some (.lst zs) ∧ xs.length + zs.length ≤ sizeLine ∧ ∀ H', But l H H' → H' l = some (.lst (xs ++ zs)) → Q .non H'
theorem mt_extendN : MtR X "list.extend" uExtend := mt_imp mt_extend fun _ _ _ _ ⟨l, b, xs, zs, e1, e2, h1, h2, h3, q⟩ => ⟨l, b, xs, zs, e1, e2, h1, h2, h3, q _ but_upd upd_same⟩
/-- list(..), tuple(..), dict(..) -/
theorem call_list_ofN : CallR X (.type "list") (fun xs H Q => ∃ p ys, xs = [.ref p] ∧ (SqL X.K H p ys ∨ SqT X.K H p ys) ∧ ∀ l H', H l = none → Same H H' → H' l = some (.lst ys) → Q (.ref l) H') :=
  call_imp call_list_of fun _ _ _ ⟨p, ys, e1, h, q⟩ => ⟨p, ys, e1, h, fun l nl => q l _ nl (same_upd nl) upd_same⟩
theorem call_list_dKN (hc : X.calm = true) : CallR X (.type "list") (fun xs H Q => ∃ p kvs, xs = [.ref p] ∧ H p = some (.dK kvs) ∧ ∀ l H', H l = none → Same H H' → H' l = some (.lst (kvs.map fun kv => kV kv.1)) → Q (.ref l) H') :=
  call_imp (call_list_dK hc) fun _ _ _ ⟨p, ys, e1, h, q⟩ => ⟨p, ys, e1, h, fun l nl => q l _ nl (same_upd nl) upd_same⟩
/-- tuple(a list) -/
theorem call_tuple_ofN : CallR X (.type "tuple") (fun xs H Q => ∃ p ys, xs = [.ref p] ∧ SqL X.K H p ys ∧ ∀ l H', H l = none → Same H H' → H' l = some (.tup ys) → Q (.ref l) H') :=
  call_imp call_tuple_of fun _ _ _ ⟨p, ys, e1, h, q⟩ => ⟨p, ys, e1, .inl ⟨h, fun l nl => q l _ nl (same_upd nl) upd_same⟩⟩
theorem call_dictCN : CallR X (.type "dict") (fun xs H Q => ∃ (a : Addr) (kvs : List (Key × V)), xs = [.ref a] ∧ H a = some (.dK kvs) ∧ ∀ p H', H p = none → Same H H' → H' p = some (.dK kvs) → Q (.ref p) H') :=
  call_imp call_dictC fun _ _ _ ⟨a, kvs, e1, h, q⟩ => ⟨a, kvs, e1, h, fun l nl => q l _ nl (same_upd nl) upd_same⟩
theorem call_dictPN (hc : X.calm = true) : CallR X (.type "dict") (fun xs H Q => ∃ (a : Addr) (ps : List Addr) (kvs : List (Key × V)), xs = [.ref a] ∧ SqL X.K H a (ps.map V.ref) ∧ Paired (fun p kv => SqT X.K H p [kV kv.1, kv.2]) ps kvs ∧
    ∀ p H', H p = none → Same H H' → H' p = some (.dK (mergeK [] kvs)) → Q (.ref p) H') :=
  call_imp (call_dictP hc) fun _ _ _ ⟨a, ps, kvs, e1, h1, h2, q⟩ => ⟨a, ps, kvs, e1, h1, h2, fun l nl => q l _ nl (same_upd nl) upd_same⟩
/-- stores -/
def uSetL : V → V → V → Hp → (Hp → Prop) → Prop := fun o i v H Q => ∃ p xs k j, o = .ref p ∧ i = .int k ∧ H p = some (.lst xs) ∧ ixN xs.length k = some j ∧ ∀ H', But p H H' → H' p = some (.lst (xs.set j v)) → Q H'
theorem set_listN : PSet X uSetL := fun pins s σ H o i v ov iv u Q I ro ri rv ⟨p, xs, k, j, e1, e2, h1, h2, q⟩ => set_list pins s σ H o i v ov iv u Q I ro ri rv ⟨p, xs, k, j, e1, e2, h1, h2, q _ but_upd upd_same⟩
def uDPut (td ty tv : TE) : TS := fun D σ H => tv σ H fun v H1 => td σ H1 fun x H2 => ty σ H2 fun y H3 => ∃ (a : Addr) (kvs : List (Key × V)) (k : Key), x = .ref a ∧ y = kV k ∧ H3 a = some (.dK kvs) ∧ kvs.length < sizeLine ∧
  ∀ H', But a H3 H' → H' a = some (.dK (putK kvs k v)) → D.nx σ H'
theorem ps_imp {st : Stmt} {t t' : TS} (h : PS X st t) (f : ∀ D σ H, t' D σ H → t D σ H) : PS X st t' := ⟨fun pins s σ H D I q => h.run pins s σ H D I (f D σ H q)⟩
theorem ps_dputN (hu : X.A.units + 1 < cLine) (ho : PE X o td) (hi : PE X i ty) (hv : PE X value tv) (hs : swapsWith value (some (.Subscript o i pos')) pos.line X.env = pure false) :
    PS X (.Assign [.Subscript o i pos'] value pos) (uDPut td ty tv) :=
  ps_imp (ps_dput hu (pe_weak ho) (pe_weak hi) (pe_weak hv) hs) fun D σ H q => ⟨_, q, fun v H1 q => ⟨_, q, fun x H2 q => ⟨_, q, fun y H3 ⟨a, kvs, k, e1, e2, h1, h2, q⟩ => by
    subst e2
    exact ⟨a, _, e1, DPut.k h1 h2, q _ but_upd upd_same⟩⟩⟩⟩
def uFld (K : PySem.W.Frag) (ta tv : TE) (f : Str) : TS := fun D σ H => tv σ H fun y H1 => ta σ H1 fun x H2 => ∃ a C dx fs, x = .ref a ∧ H2 a = some (.ins C dx fs) ∧ Cls K C ∧ NoAttr K C f ∧ fs.length < 1000 ∧
  ∀ H', But a H2 H' → H' a = some (.ins C dx (putF f y fs)) → D.nx σ H'
theorem ps_fldN {f : Str} (ha : PE X o ta) (hv : PE X value tv) (hs : swapsWith value (some (.Attribute o f pos')) pos.line X.env = pure false) : PS X (.Assign [.Attribute o f pos'] value pos) (uFld X.K ta tv f) :=
  ps_imp (ps_fld (pe_weak ha) (pe_weak hv) hs) fun D σ H q => ⟨_, q, fun v H1 q => ⟨_, q, fun x H2 ⟨a, C, dx, fs, e1, h1, h2, h3, h4, q⟩ => ⟨a, C, dx, fs, e1, h1, h2, h3, h4, q _ but_upd upd_same⟩⟩⟩
end

/-! ### small readings -/
theorem it_y {c : Bool} {A B : Prop} (e : c = true) (h : A) : if c = true then A else B := by rw [if_pos e]; exact h
theorem it_n {c : Bool} {A B : Prop} (e : c = false) (h : B) : if c = true then A else B := by rw [e]; exact h
theorem at0 {α : Type} {z : α} {r : List α} : atI (z :: r) (0 : Int) = some z := atI_nat (j := 0) rfl
theorem at1 {α : Type} {z y : α} {r : List α} : atI (z :: y :: r) (1 : Int) = some y := atI_nat (j := 1) rfl
theorem at2 {α : Type} {z y x : α} {r : List α} : atI (z :: y :: x :: r) (2 : Int) = some x := atI_nat (j := 2) rfl
theorem at3 {α : Type} {z y x u : α} {r : List α} : atI (z :: y :: x :: u :: r) (3 : Int) = some u := atI_nat (j := 3) rfl
theorem cut1 (z : V) (r : List V) : cutV (z :: r) (some (1 : Int)) none = r := by
  have e1 : HT.sIx (z :: r).length 0 (some (1 : Int)) = 1 := by
    have := HT.sIx_nat (z :: r).length 0 1
    rw [show ((1 : Nat) : Int) = 1 from rfl] at this
    rw [this, List.length_cons]
    omega
  unfold cutV
  rw [e1, HT.sIx_none]
  simp
theorem cut2 (z y : V) (r : List V) : cutV (z :: y :: r) (some (2 : Int)) none = r := by
  have e1 : HT.sIx (z :: y :: r).length 0 (some (2 : Int)) = 2 := by
    have := HT.sIx_nat (z :: y :: r).length 0 2
    rw [show ((2 : Nat) : Int) = 2 from rfl] at this
    rw [this, List.length_cons, List.length_cons]
    omega
  unfold cutV
  rw [e1, HT.sIx_none]
  simp
theorem cut_from {xs : List V} {n : Nat} (h : n ≤ xs.length) : cutV xs (some (n : Int)) none = xs.drop n := by
  unfold cutV
  rw [HT.sIx_nat, HT.sIx_none, Nat.min_eq_left h]
  rw [List.take_of_length_le]
  rw [List.length_drop]
  exact Nat.le_refl _
theorem cut_to {xs : List V} {n : Nat} (h : n ≤ xs.length) : cutV xs none (some (n : Int)) = xs.take n := by
  unfold cutV
  rw [HT.sIx_nat, HT.sIx_none, Nat.min_eq_left h]
  simp
end FF
/-! The module of forms: inner, gather_names, names_in, kind_expressions, expressions_of. -/
namespace FF
open PySem L2

def Ex.parts : Ex → List Ex
  | .not e => [e] | .op _ a b => [a, b] | .ite c a b => [c, a, b] | _ => []
def Ex.own : Ex → List Str
  | .nam x => [x] | .ask _ x => [x] | .has x _ => [x] | _ => []
theorem names_eq (e : Ex) : namesE e = e.own ++ e.parts.flatMap namesE := by
  cases e <;> simp [namesE, Ex.own, Ex.parts]
theorem parts_ht : ∀ {e f : Ex}, f ∈ e.parts → f.ht < e.ht
  | .not e, f, h => by
    have := List.mem_singleton.mp h
    subst this
    exact Nat.lt_succ_self _
  | .op _ a b, f, h => by
    have h : f = a ∨ f = b := by simpa [Ex.parts] using h
    show f.ht < max a.ht b.ht + 1
    rcases h with rfl | rfl <;> omega
  | .ite c a b, f, h => by
    have h : f = c ∨ f = a ∨ f = b := by simpa [Ex.parts] using h
    show f.ht < max c.ht (max a.ht b.ht) + 1
    rcases h with rfl | rfl | rfl <;> omega
def addN (fs : List Str) (x : Str) : List Str := if x ∈ fs then fs else fs ++ [x]
def gath (fs : List Str) : Ex → List Str
  | .nam x => addN fs x
  | .ask _ x => addN fs x
  | .has x _ => addN fs x
  | .not e => gath fs e
  | .op _ a b => gath (gath fs a) b
  | .ite c a b => gath (gath (gath fs c) a) b
  | _ => fs
theorem gath_eq (fs : List Str) (e : Ex) : gath fs e = e.parts.foldl gath (e.own.foldl addN fs) := by
  cases e <;> rfl
theorem addN_mem {fs : List Str} {x y : Str} : y ∈ addN fs x ↔ y ∈ fs ∨ y = x := by
  unfold addN
  split
  · rename_i h
    exact ⟨.inl, fun q => q.elim id fun e => e ▸ h⟩
  · simp
theorem addN_len (fs : List Str) (x : Str) : (addN fs x).length ≤ fs.length + 1 := by
  unfold addN
  split
  · omega
  · simp
theorem gath_mem : ∀ {e : Ex} {fs : List Str} {y : Str}, y ∈ gath fs e ↔ y ∈ fs ∨ y ∈ namesE e
  | .nam x, fs, y => by simp [gath, namesE, addN_mem]
  | .ask _ x, fs, y => by simp [gath, namesE, addN_mem]
  | .has x _, fs, y => by simp [gath, namesE, addN_mem]
  | .row, fs, y => by simp [gath, namesE]
  | .num _, fs, y => by simp [gath, namesE]
  | .opt _, fs, y => by simp [gath, namesE]
  | .not e, fs, y => gath_mem (e := e)
  | .op _ a b, fs, y => by simp [gath, namesE, gath_mem (e := a), gath_mem (e := b), or_assoc]
  | .ite c a b, fs, y => by simp [gath, namesE, gath_mem (e := a), gath_mem (e := b), gath_mem (e := c), or_assoc]
theorem gath_len : ∀ (e : Ex) (fs : List Str), (gath fs e).length ≤ fs.length + (namesE e).length
  | .nam x, fs => addN_len fs x
  | .ask _ x, fs => addN_len fs x
  | .has x _, fs => addN_len fs x
  | .row, fs => Nat.le_refl _
  | .num _, fs => Nat.le_refl _
  | .opt _, fs => Nat.le_refl _
  | .not e, fs => gath_len e fs
  | .op _ a b, fs => by
    have h1 := gath_len a fs
    have h2 := gath_len b (gath fs a)
    simp only [gath, namesE, List.length_append]
    omega
  | .ite c a b, fs => by
    have h0 := gath_len c fs
    have h1 := gath_len a (gath fs c)
    have h2 := gath_len b (gath (gath fs c) a)
    simp only [gath, namesE, List.length_append]
    omega
theorem gathL_len : ∀ (es : List Ex) (fs : List Str), (es.foldl gath fs).length ≤ fs.length + (es.flatMap namesE).length
  | [], fs => Nat.le_refl _
  | e :: es, fs => by
    have h1 := gath_len e fs
    have h2 := gathL_len es (gath fs e)
    simp only [List.foldl_cons, List.flatMap_cons, List.length_append]
    omega
theorem take_part {α β : Type} (f : α → List β) : ∀ {L : List α} {i : Nat} {e : α}, L[i]? = some e → ((L.take i).flatMap f).length + (f e).length ≤ (L.flatMap f).length
  | [], i, e, h => by simp at h
  | a :: L, 0, e, h => by
    have h : a = e := by simpa using h
    subst h
    simp
  | a :: L, i + 1, e, h => by
    have := take_part f (L := L) (i := i) (e := e) (by simpa using h)
    simp only [List.take_succ_cons, List.flatMap_cons, List.length_append]
    omega
theorem take_snoc {α : Type} {L : List α} {i : Nat} {e : α} (h : L[i]? = some e) : L.take (i + 1) = L.take i ++ [e] := by
  rw [List.take_add_one, h]
  rfl
/-- an expression by its word -/
theorem ExAt.view {H : Hp} {e : Ex} {v : V} (h : ExAt H e v) : ∃ a z r, v = .ref a ∧ H a = some (.tup (.str z :: r)) ∧
    ((inV (.str z) [.str "not", .str "minus", .str "if"] = true ∧ All2 (fun v e => ExAt H e v) r e.parts) ∨
     (inV (.str z) [.str "not", .str "minus", .str "if"] = false ∧ z = "op" ∧ ∃ g q, r = g :: q ∧ All2 (fun v e => ExAt H e v) q e.parts) ∨
     (inV (.str z) [.str "not", .str "minus", .str "if"] = false ∧ z ≠ "op" ∧ e.parts = [])) := by
  cases e with
  | nam x => obtain ⟨a, e1, h⟩ := h; exact ⟨a, _, _, e1, h, .inr (.inr ⟨by decide +kernel, by decide +kernel, rfl⟩)⟩
  | ask f x => obtain ⟨a, e1, h⟩ := h; exact ⟨a, _, _, e1, h, .inr (.inr ⟨by decide +kernel, by decide +kernel, rfl⟩)⟩
  | has x o => obtain ⟨a, e1, h⟩ := h; exact ⟨a, _, _, e1, h, .inr (.inr ⟨by decide +kernel, by decide +kernel, rfl⟩)⟩
  | row => obtain ⟨a, e1, h⟩ := h; exact ⟨a, _, _, e1, h, .inr (.inr ⟨by decide +kernel, by decide +kernel, rfl⟩)⟩
  | num n => obtain ⟨a, e1, h⟩ := h; exact ⟨a, _, _, e1, h, .inr (.inr ⟨by decide +kernel, by decide +kernel, rfl⟩)⟩
  | opt o => obtain ⟨a, e1, h⟩ := h; exact ⟨a, _, _, e1, h, .inr (.inr ⟨by decide +kernel, by decide +kernel, rfl⟩)⟩
  | not e => obtain ⟨a, x, e1, h, h1⟩ := h; exact ⟨a, _, _, e1, h, .inl ⟨by decide +kernel, h1, trivial⟩⟩
  | op g e f => obtain ⟨a, x, y, e1, h, h1, h2⟩ := h; exact ⟨a, _, _, e1, h, .inr (.inl ⟨by decide +kernel, rfl, _, _, rfl, h1, h2, trivial⟩)⟩
  | ite c e f => obtain ⟨a, z, x, y, e1, h, h0, h1, h2⟩ := h; exact ⟨a, _, _, e1, h, .inl ⟨by decide +kernel, h0, h1, h2, trivial⟩⟩
/-- .. and by the name that it says itself -/
theorem ExAt.gview {H : Hp} {e : Ex} {v : V} (h : ExAt H e v) : ∃ a z r, v = .ref a ∧ H a = some (.tup (.str z :: r)) ∧
    ((inV (.str z) [.str "name", .str "has"] = true ∧ z ≠ "ask" ∧ ∃ x q, r = .str x :: q ∧ e.own = [x]) ∨
     (inV (.str z) [.str "name", .str "has"] = false ∧ z = "ask" ∧ ∃ g x, r = [g, .str x] ∧ e.own = [x]) ∨
     (inV (.str z) [.str "name", .str "has"] = false ∧ z ≠ "ask" ∧ e.own = [])) := by
  cases e with
  | nam x => obtain ⟨a, e1, h⟩ := h; exact ⟨a, _, _, e1, h, .inl ⟨by decide +kernel, by decide +kernel, _, _, rfl, rfl⟩⟩
  | ask f x => obtain ⟨a, e1, h⟩ := h; exact ⟨a, _, _, e1, h, .inr (.inl ⟨by decide +kernel, rfl, _, _, rfl, rfl⟩)⟩
  | has x o => obtain ⟨a, e1, h⟩ := h; exact ⟨a, _, _, e1, h, .inl ⟨by decide +kernel, by decide +kernel, _, _, rfl, rfl⟩⟩
  | row => obtain ⟨a, e1, h⟩ := h; exact ⟨a, _, _, e1, h, .inr (.inr ⟨by decide +kernel, by decide +kernel, rfl⟩)⟩
  | num n => obtain ⟨a, e1, h⟩ := h; exact ⟨a, _, _, e1, h, .inr (.inr ⟨by decide +kernel, by decide +kernel, rfl⟩)⟩
  | opt o => obtain ⟨a, e1, h⟩ := h; exact ⟨a, _, _, e1, h, .inr (.inr ⟨by decide +kernel, by decide +kernel, rfl⟩)⟩
  | not e => obtain ⟨a, x, e1, h, h1⟩ := h; exact ⟨a, _, _, e1, h, .inr (.inr ⟨by decide +kernel, by decide +kernel, rfl⟩)⟩
  | op g e f => obtain ⟨a, x, y, e1, h, h1, h2⟩ := h; exact ⟨a, _, _, e1, h, .inr (.inr ⟨by decide +kernel, by decide +kernel, rfl⟩)⟩
  | ite c e f => obtain ⟨a, z, x, y, e1, h, h0, h1, h2⟩ := h; exact ⟨a, _, _, e1, h, .inr (.inr ⟨by decide +kernel, by decide +kernel, rfl⟩)⟩
theorem flatS : ∀ fs : List Str, (fs.map V.str).all flatV = true
  | [] => rfl
  | _ :: fs => by rw [List.map_cons, List.all_cons, flatS fs]; rfl
theorem inV_str (x : Str) : ∀ fs : List Str, inV (.str x) (fs.map V.str) = decide (x ∈ fs)
  | [] => rfl
  | y :: fs => by
    have ih := inV_str x fs
    unfold inV at ih ⊢
    rw [List.map_cons, List.any_cons, ih]
    show ((y == x) || decide (x ∈ fs)) = decide (x ∈ y :: fs)
    by_cases e : y = x
    · subst e
      simp
    · have e2 : ¬ x = y := fun q => e q.symm
      have : (y == x) = false := by simpa using e
      rw [this]
      simp [e2]

def spInner : Sp := fun vs H Q _ => ∃ (e : Ex) (v : V), vs = [v] ∧ ExAt H e v ∧
  ∀ (p : Addr) (xs : List V) (H' : Hp), Same H H' → H' p = some (.tup xs) → All2 (fun v e => ExAt H' e v) xs e.parts → Q (.ref p) H'
def spGather (n : Nat) : Sp := fun vs H Q _ => ∃ (e : Ex) (v : V) (l : Addr) (fs : List Str), vs = [v, .ref l] ∧ ExAt H e v ∧ e.ht < n ∧ H l = some (.lst (fs.map V.str)) ∧ fs.length + (namesE e).length ≤ 10000 ∧
  ∀ H', But l H H' → H' l = some (.lst ((gath fs e).map V.str)) → Q .non H'
def spNames (n : Nat) : Sp := fun vs H Q _ => ∃ (e : Ex) (v : V), vs = [v] ∧ ExAt H e v ∧ e.ht < n ∧ (namesE e).length ≤ 10000 ∧
  ∀ p H', Same H H' → H' p = some (.tup ((gath [] e).map V.str)) → Q (.ref p) H'
section
variable {P : Program} {w : World} {K : PySem.W.Frag} {mg : Str → Option Value} {base : Heap} {cSc cSv aW aP aN aO aA : Addr}
abbrev s_inner : Stmt := top 3
theorem sc_inner : FnScope ["expression", "kind"] ["expression"] (defScope s_inner) := ⟨rfl, rfl, rfl, by decide +kernel, rfl, by decide +kernel, by decide +kernel⟩
theorem ok_inner {f : Addr} {fd : FuncData} (F : Fun K "inner" "inner" s_inner f fd) : FnOk P w K mg base CX0 1 f fd ["expression"] spInner := by
  refine F.ok sc_inner (fun vs H Q E h => ?_) (fun cdv A outer s H vs Q E hr h => ?_)
  · obtain ⟨e, v, rfl, _⟩ := h
    rfl
  obtain ⟨e, v, rfl, hE, k⟩ := h
  obtain ⟨a, z, r, rfl, ha, view⟩ := hE.view
  refine ⟨_, (pss_cons (ps_set (i := 1) sc_inner.nd rfl (Or.inl rfl) (pe_ix ix_tup (pv 0) pe_int (fun _ _ => rfl)))
      (pss_cons (ps_if (pt_cmpR op_in_seq (pv 1) (pe_tupN (pa_cons pe_str (pa_cons pe_str (pa_cons pe_str pa_nil)))) (by rfl))
        (pss_one (ps_ret (pe_slice sl_tupN (pv 0) (po_some pe_int) po_none)))
        pss_nil)
      (pss_one (ps_ret (pe_ifExp (pt_cmpR op_eq (pv 1) pe_str (nomark _)) (pe_slice sl_tupN (pv 0) (po_some pe_int) po_none) (pe_tupN pa_nil)))))), ?_⟩
  refine ⟨_, rfl, a, _, 0, _, rfl, rfl, sq_tup ha, at0, ?_⟩
  refine ⟨_, rfl, le_line (by decide), fun p H1 _ s1 h1 => ⟨p, _, rfl, .inr (sq_tup h1), rfl, rfl, _, rfl, ?_⟩⟩
  have ha1 := s1 _ _ ha
  rcases view with ⟨c, al⟩ | ⟨c, rfl, g, q, rfl, al⟩ | ⟨c, ne, al⟩
  · refine it_y c ?_
    refine ⟨_, rfl, _, rfl, a, _, rfl, ha1, fun p2 H2 s2 h2 => ?_⟩
    rw [cut1] at h2
    exact k p2 _ H2 (s1.trans s2) h2 (al.imp fun _ _ q => q.tm (tm_same (s1.trans s2)))
  · refine it_n c ?_
    refine ⟨_, rfl, rfl, _, rfl, it_y (by decide +kernel) ?_⟩
    refine ⟨_, rfl, _, rfl, a, _, rfl, ha1, fun p2 H2 s2 h2 => ?_⟩
    rw [cut2] at h2
    exact k p2 _ H2 (s1.trans s2) h2 (al.imp fun _ _ q => q.tm (tm_same (s1.trans s2)))
  · refine it_n c ?_
    refine ⟨_, rfl, rfl, _, rfl, it_n (decide_eq_false fun q => ne (by injection q)) ?_⟩
    refine ⟨le_line (by decide), fun p2 H2 _ s2 h2 => ?_⟩
    exact k p2 _ H2 (s1.trans s2) h2 (by rw [al]; trivial)

abbrev s_gather_names : Stmt := top 4
theorem sc_gather_names : FnScope ["expression", "found", "kind", "name", "part"] ["expression", "found"] (defScope s_gather_names) := ⟨rfl, rfl, rfl, by decide +kernel, rfl, by decide +kernel, by decide +kernel⟩
theorem ok_gather {n : Nat} {f : Addr} {fd : FuncData} (F : Fun K "gather_names" "gather_names" s_gather_names f fd) (G_inner : Has P w K mg base "inner" 1 ["expression"] spInner)
    (G_gather_names : Has P w K mg base "gather_names" (n + 1) ["expression", "found"] (spGather n)) : FnOk P w K mg base CX0 (n + 2) f fd ["expression", "found"] (spGather (n + 1)) := by
  refine F.ok sc_gather_names (fun vs H Q E h => ?_) (fun cdv A outer s H vs Q E hr h => ?_)
  · obtain ⟨e, v, l, fs, rfl, _⟩ := h
    rfl
  obtain ⟨e, v, l, fs, rfl, hE, ht, hl, hn, k⟩ := h
  obtain ⟨a, z, r, rfl, ha, view⟩ := hE.gview
  refine ⟨_, (pss_cons (ps_set (i := 2) sc_gather_names.nd rfl (Or.inl rfl) (pe_ix ix_tup (pv 0) pe_int (fun _ _ => rfl)))
      (pss_cons (ps_set (i := 3) sc_gather_names.nd rfl (Or.inl rfl) pe_non)
      (pss_cons (ps_if (pt_cmpR op_in_seq (pv 2) (pe_tupN (pa_cons pe_str (pa_cons pe_str pa_nil))) (by rfl))
        (pss_one (ps_set (i := 3) sc_gather_names.nd rfl (Or.inl rfl) (pe_ix ix_tup (pv 0) pe_int (fun _ _ => rfl))))
        pss_nil)
      (pss_cons (ps_if (pt_cmpR op_eq (pv 2) pe_str (nomark _))
        (pss_one (ps_set (i := 3) sc_gather_names.nd rfl (Or.inl rfl) (pe_ix ix_tup (pv 0) pe_int (fun _ _ => rfl))))
        pss_nil)
      (pss_cons (ps_if (PW.pt (pw_and (pt_cmp (pc_notN (pv 3))) (pw_and1 (pt_cmpR op_notIn_seq (pv 3) (pv 1) (by rfl)))))
        (pss_one (ps_expr (pe_bm PySem.F.plainAttrs_list PySem.F.slot_list_append PySem.F.type_list_append mt_appendN (pv 1) (pa_cons (pv 3) pa_nil))))
        pss_nil)
      (pss_one (ps_for PassesOwn.never rfl (pi_tup (pe_callH G_inner (hr.mono (by omega)) (by rfl) (pa_cons (pv 0) pa_nil))) (pg_name (i := 4) sc_gather_names.nd rfl (Or.inl rfl))
        (pss_one (ps_expr (pe_callH G_gather_names (hr.mono (by omega)) (by rfl) (pa_cons (pv 4) (pa_cons (pv 1) pa_nil)))))))))))), ?_⟩
  refine ⟨_, rfl, a, _, 0, _, rfl, rfl, sq_tup ha, at0, ?_⟩
  refine ⟨_, rfl, le_line (by decide), fun p H1 _ s1 h1 => ⟨p, _, rfl, .inr (sq_tup h1), rfl, rfl, _, rfl, ?_⟩⟩
  have ha1 := s1 _ _ ha
  have hl1 := s1 _ _ hl
  -- what is left behind the own name
  have tail : ∀ (nm : V) (H2 : Hp), But l H H2 → H2 l = some (.lst ((e.own.foldl addN fs).map V.str)) →
      tFor (iTup K (tCall spInner [] E0 (tCons (tVar 0) tNil))) (gName 4) (tDrop (tCall (spGather n) [] E0 (tCons (tVar 4) (tCons (tVar 1) tNil)))) { nx := fun _ H' => Q .non H', rt := Q }
        [some (.ref a), some (.ref l), some (.str z), some nm, none] H2 := by
    intro nm H2 b2 l2
    have t2 : Tm H H2 := tm_lst b2 hl
    refine ⟨_, rfl, e, _, rfl, hE.tm t2, fun p3 xs H3 s3 h3 al => ⟨p3, rfl, ⟨_, sq_tup h3⟩, ?_⟩⟩
    have ol := names_eq e
    have on : (namesE e).length = e.own.length + (e.parts.flatMap namesE).length := by rw [ol, List.length_append]
    have ow : (e.own.foldl addN fs).length ≤ fs.length + e.own.length := by
      have : ∀ (xs fs : List Str), (xs.foldl addN fs).length ≤ fs.length + xs.length := fun xs => by
        induction xs with
        | nil => intro fs; exact Nat.le_refl _
        | cons x xs ih =>
          intro fs
          have h1 := ih (addN fs x)
          have h2 := addN_len fs x
          simp only [List.foldl_cons, List.length_cons]
          omega
      exact this _ _
    refine for_tup (K := K) (a := p3) (xs := xs) (fun i σ H' => ∃ u, σ = [some (.ref a), some (.ref l), some (.str z), some nm, u] ∧ But l H3 H' ∧ H' l = some (.lst (((e.parts.take i).foldl gath (e.own.foldl addN fs)).map V.str)))
      ⟨none, rfl, But.of_same (Same.refl _), s3 _ _ l2⟩ (fun i σ H' _ ⟨_, _, b, _⟩ => sq_tup (tm_lst b (s3 _ _ l2) _ _ h3)) ?_ ?_
    · rintro i x σ H' hi ⟨u, rfl, b, hl'⟩
      obtain ⟨e1, he1, hx⟩ := al.get hi
      have tb := tm_lst b (s3 _ _ l2)
      have tp := take_part namesE he1
      have tl := gathL_len (e.parts.take i) (e.own.foldl addN fs)
      refine ⟨_, rfl, _, rfl, e1, x, l, _, rfl, hx.tm tb, ?_, hl', by omega, fun H4 b4 l4 => ?_⟩
      · have := parts_ht (List.mem_of_getElem? he1)
        omega
      · refine ⟨_, rfl, b.trans b4, ?_⟩
        rw [l4, take_snoc he1, List.foldl_append]
        rfl
    · rintro σ H' ⟨u, rfl, b, hl'⟩
      refine k H' (b2.trans ((But.of_same s3).trans b)) ?_
      rw [hl', gath_eq, List.take_of_length_le (Nat.le_of_eq al.len.symm)]
  -- the name, if it is there, is noted
  have note : ∀ (x : Str), e.own = [x] → ∀ (H2 : Hp), But l H H2 → H2 l = some (.lst (fs.map V.str)) →
      tSeq (tIfS (tAnd (tB (tNotN (tVar 3))) (tTest (tOp (rIn K true) (tVar 3) (tVar 1)))) (tDrop (tBM K "list" uAppend (tVar 1) (tCons (tVar 3) tNil))) tNext)
        (tFor (iTup K (tCall spInner [] E0 (tCons (tVar 0) tNil))) (gName 4) (tDrop (tCall (spGather n) [] E0 (tCons (tVar 4) (tCons (tVar 1) tNil))))) { nx := fun _ H' => Q .non H', rt := Q }
        [some (.ref a), some (.ref l), some (.str z), some (.str x), none] H2 := by
    intro x eo H2 b2 l2
    refine ⟨_, rfl, _, rfl, it_y rfl ?_⟩
    refine ⟨_, rfl, _, rfl, l, _, rfl, .inl (SqL.of l2), rfl, flatS fs, _, rfl, ?_⟩
    by_cases c : x ∈ fs
    · refine it_n (by rw [inV_str, decide_eq_true c]; rfl) ?_
      refine tail _ H2 b2 ?_
      rw [l2, eo]
      show _ = some (HO.lst ((addN fs x).map V.str))
      unfold addN
      rw [if_pos c]
    · refine it_y (by rw [inV_str, decide_eq_false c]; rfl) ?_
      refine ⟨_, rfl, .inl ⟨rfl, _, SqL.of l2⟩, _, rfl, l, _, _, rfl, rfl, l2, ?_, fun H3 b3 l3 => ?_⟩
      · rw [List.length_map]
        exact lt_line (by omega)
      · refine tail _ H3 (b2.trans b3) ?_
        rw [l3, eo]
        show _ = some (HO.lst ((addN fs x).map V.str))
        unfold addN
        rw [if_neg c, List.map_append]
        rfl
  rcases view with ⟨c, ne, x, q, rfl, eo⟩ | ⟨c, rfl, g, x, rfl, eo⟩ | ⟨c, ne, eo⟩
  · refine it_y c ?_
    refine ⟨_, rfl, a, _, 1, _, rfl, rfl, sq_tup ha1, at1, ?_⟩
    refine ⟨_, rfl, rfl, _, rfl, it_n (decide_eq_false fun q => ne (by injection q)) ?_⟩
    exact note x eo H1 (But.of_same s1) hl1
  · refine it_n c ?_
    refine ⟨_, rfl, rfl, _, rfl, it_y (by decide +kernel) ?_⟩
    refine ⟨_, rfl, a, _, 2, _, rfl, rfl, sq_tup ha1, at2, ?_⟩
    exact note x eo H1 (But.of_same s1) hl1
  · refine it_n c ?_
    refine ⟨_, rfl, rfl, _, rfl, it_n (decide_eq_false fun q => ne (by injection q)) ?_⟩
    refine ⟨_, rfl, _, rfl, it_n rfl ?_⟩
    exact tail _ H1 (But.of_same s1) (by rw [hl1, eo]; rfl)
theorem gather_none {f : Addr} {fd : FuncData} : FnOk P w K mg base CX0 1 f fd ["expression", "found"] (spGather 0) := by
  have no : ∀ vs H Q E, ¬ spGather 0 vs H Q E := fun vs H Q E h => by
    obtain ⟨_, _, _, _, _, _, h2, _⟩ := h
    omega
  exact ⟨fun vs H Q E h => absurd h (no vs H Q E), fun A outer s H args us vs Q E _ _ _ _ h => absurd h (no vs H Q E)⟩
theorem all_gather {f : Addr} {fd : FuncData} (F : Fun K "gather_names" "gather_names" s_gather_names f fd) (b : Binds K fd ["expression", "found"] []) (m : mg "gather_names" = some (.ref f)) (G_inner : Has P w K mg base "inner" 1 ["expression"] spInner) :
    ∀ n : Nat, Has P w K mg base "gather_names" (n + 1) ["expression", "found"] (spGather n)
  | 0 => ⟨f, fd, gather_none, m, F.kp, b⟩
  | n + 1 => ⟨f, fd, ok_gather F G_inner (all_gather F b m G_inner n), m, F.kp, b⟩

abbrev s_names_in : Stmt := top 5
theorem sc_names_in : FnScope ["expression", "found"] ["expression"] (defScope s_names_in) := ⟨rfl, rfl, rfl, by decide +kernel, rfl, by decide +kernel, by decide +kernel⟩
theorem ok_names_in {n : Nat} {f : Addr} {fd : FuncData} (T : Txt K mg w cSc cSv aW aP aN aO aA) (F : Fun K "names_in" "names_in" s_names_in f fd) (G_gather_names : Has P w K mg base "gather_names" (n + 1) ["expression", "found"] (spGather n)) :
    FnOk P w K mg base CX0 (n + 2) f fd ["expression"] (spNames n) := by
  refine F.ok sc_names_in (fun vs H Q E h => ?_) (fun cdv A outer s H vs Q E hr h => ?_)
  · obtain ⟨e, v, rfl, _⟩ := h
    rfl
  obtain ⟨e, v, rfl, hE, ht, hn, k⟩ := h
  refine ⟨_, (pss_cons (ps_set (i := 1) sc_names_in.nd rfl (Or.inl rfl) (pe_lstN pa_nil))
      (pss_cons (ps_expr (pe_callH G_gather_names (hr.mono (by omega)) (by rfl) (pa_cons (pv 0) (pa_cons (pv 1) pa_nil))))
      (pss_one (ps_ret (pe_callTy call_tuple_ofN (by rfl) T.tuple (by decide +kernel) (pa_cons (pv 1) pa_nil)))))), ?_⟩
  refine ⟨Nat.zero_le _, fun l H1 n1 s1 h1 => ?_⟩
  refine ⟨_, rfl, _, rfl, e, v, l, [], rfl, hE.tm (tm_same s1), ht, h1, by simpa using hn, fun H2 b2 h2 => ?_⟩
  refine ⟨_, rfl, l, _, rfl, SqL.of h2, fun p H3 n3 s3 h3 => ?_⟩
  exact k p H3 ((same_but s1 b2 n1).trans s3) h3
end
end FF
/-! The expressions of a field. -/
namespace FF
open PySem L2

def qOpts : Qk → List (Option Ex)
  | .integer lo hi => [lo, hi]
  | .opts _ os => os.map (·.2)
  | _ => []
def bOpts : Fb → List (Option Ex)
  | .q k _ => qOpts k
  | .fm e => [some e]
  | .rl e _ => [some e]
def fOpts (f : Fld) : List (Option Ex) := f.cond :: bOpts f.body
theorem qOpts_eq (k : Qk) : qExprs k = (qOpts k).filterMap id := by
  cases k with
  | truth => rfl
  | text => rfl
  | integer lo hi => cases lo <;> cases hi <;> rfl
  | opts m os => simp [qExprs, qOpts, List.filterMap_map]
theorem fOpts_eq (f : Fld) : exprsM f = (fOpts f).filterMap id := by
  have hb : bExprs f.body = (bOpts f.body).filterMap id := by
    cases f.body with
    | q k r => exact qOpts_eq k
    | fm e => rfl
    | rl e b => rfl
  unfold exprsM fOpts
  rw [hb]
  cases f.cond <;> rfl
theorem All2.snoc {α β : Type} {P : α → β → Prop} {as : List α} {bs : List β} {a : α} {b : β} (h : All2 P as bs) (k : P a b) : All2 P (as ++ [a]) (bs ++ [b]) := h.app ⟨k, trivial⟩
/-- a field by its word -/
def BdAt (H : Hp) (z : Str) (y : V) : Fb → Prop
  | .q k _ => z = "question" ∧ QkAt H k y
  | .fm e => z = "formula" ∧ ExAt H e y
  | .rl e _ => z = "rule" ∧ ExAt H e y
theorem FldAt.view {H : Hp} {v : V} {f : Fld} (h : FldAt H v f) : ∃ a z x y r, v = .ref a ∧ H a = some (.tup (.str z :: .str f.name :: x :: y :: r)) ∧ OxAt H f.cond x ∧ BdAt H z y f.body := by
  unfold FldAt at h
  unfold BdAt
  cases hb : f.body with
  | q k r => rw [hb] at h; obtain ⟨a, x, y, e, h, h1, h2⟩ := h; exact ⟨a, _, x, y, _, e, h, h1, rfl, h2⟩
  | fm e => rw [hb] at h; obtain ⟨a, x, y, e, h, h1, h2⟩ := h; exact ⟨a, _, x, y, _, e, h, h1, rfl, h2⟩
  | rl e b => rw [hb] at h; obtain ⟨a, x, y, e, h, h1, h2⟩ := h; exact ⟨a, _, x, y, _, e, h, h1, rfl, h2⟩

def spKindExprs : Sp := fun vs H Q _ => ∃ (q : Qk) (v : V), vs = [v] ∧ QkAt H q v ∧ ∀ p xs H', H p = none → Same H H' → H' p = some (.lst xs) → All2 (fun v o => OxAt H' o v) xs (qOpts q) → Q (.ref p) H'
def spExprs : Sp := fun vs H Q _ => ∃ (f : Fld) (v : V), vs = [v] ∧ FldAt H v f ∧ ∀ p xs H', Same H H' → H' p = some (.tup xs) → All2 (fun v e => ExAt H' e v) xs (exprsM f) → Q (.ref p) H'
section
variable {P : Program} {w : World} {K : PySem.W.Frag} {mg : Str → Option Value} {base : Heap} {cSc cSv aW aP aN aO aA : Addr}
abbrev s_kind_expressions : Stmt := top 6
theorem sc_kind_expressions : FnScope ["kind", "_", "condition"] ["kind"] (defScope s_kind_expressions) := ⟨rfl, rfl, rfl, by decide +kernel, rfl, by decide +kernel, by decide +kernel⟩
theorem ok_kind_expressions {f : Addr} {fd : FuncData} (T : Txt K mg w cSc cSv aW aP aN aO aA) (F : Fun K "kind_expressions" "kind_expressions" s_kind_expressions f fd) : FnOk P w K mg base CX0 1 f fd ["kind"] spKindExprs := by
  refine F.ok sc_kind_expressions (fun vs H Q E h => ?_) (fun cdv A outer s H vs Q E hr h => ?_)
  · obtain ⟨e, v, rfl, _⟩ := h
    rfl
  obtain ⟨q, v, rfl, hq, k⟩ := h
  refine ⟨_, (pss_cons (ps_if (pt_cmpR op_eq (pe_ix ix_tup (pv 0) pe_int (fun _ _ => rfl)) (glS T.bounded (by rfl)) (nomark _))
        (pss_one (ps_ret (pe_lstN (pa_cons (pe_ix ix_tup (pv 0) pe_int (fun _ _ => rfl)) (pa_cons (pe_ix ix_tup (pv 0) pe_int (fun _ _ => rfl)) pa_nil)))))
        pss_nil)
      (pss_one (ps_ret (pe_ifExp (pt_cmpR op_in_seq (pe_ix ix_tup (pv 0) pe_int (fun _ _ => rfl)) (pe_glob (v := .ref aW) (by rfl) T.mW rfl) (by rfl)) (pe_lc (own := [("_", 1), ("condition", 2)]) (g := gTup K 2 (gCons (gName 1) (gCons (gName 2) gNil))) (by rfl) sc_kind_expressions.nd (pi_tup (pe_ix ix_tup (pv 0) pe_int (fun _ _ => rfl))) (blkOk_by (N := ["kind", "_", "condition"]) (sc := defScope s_kind_expressions) (by decide +kernel)) (fun _ _ _ _ _ => pg_tup rfl (pgs_cons (pg_name (i := 1) sc_kind_expressions.nd rfl (Or.inl rfl) (hf := Or.inr rfl)) (pgs_cons (pg_name (i := 2) sc_kind_expressions.nd rfl (Or.inl rfl) (hf := Or.inr rfl)) pgs_nil))) (fun _ _ _ _ _ => pts_nil) (fun _ _ _ _ _ => (pv 2))) (pe_lstN pa_nil))))), ?_⟩
  cases q with
  | truth =>
    obtain ⟨a, rfl, ha⟩ := hq
    refine ⟨_, rfl, a, _, 0, _, rfl, rfl, sq_tup ha, at0, rfl, _, rfl, it_n (by decide +kernel) ?_⟩
    refine ⟨_, rfl, a, _, 0, _, rfl, rfl, sq_tup ha, at0, aW, _, rfl, .inr (T.qW _), rfl, rfl, _, rfl, it_n (by decide +kernel) ?_⟩
    exact ⟨Nat.zero_le _, fun p H1 n1 s1 h1 => k p _ H1 n1 s1 h1 trivial⟩
  | text =>
    obtain ⟨a, rfl, ha⟩ := hq
    refine ⟨_, rfl, a, _, 0, _, rfl, rfl, sq_tup ha, at0, rfl, _, rfl, it_n (by decide +kernel) ?_⟩
    refine ⟨_, rfl, a, _, 0, _, rfl, rfl, sq_tup ha, at0, aW, _, rfl, .inr (T.qW _), rfl, rfl, _, rfl, it_n (by decide +kernel) ?_⟩
    exact ⟨Nat.zero_le _, fun p H1 n1 s1 h1 => k p _ H1 n1 s1 h1 trivial⟩
  | integer lo hi =>
    obtain ⟨a, x, y, rfl, ha, hx, hy⟩ := hq
    refine ⟨_, rfl, a, _, 0, _, rfl, rfl, sq_tup ha, at0, rfl, _, rfl, it_y (by decide +kernel) ?_⟩
    refine ⟨_, rfl, a, _, 1, _, rfl, rfl, sq_tup ha, at1, _, rfl, a, _, 2, _, rfl, rfl, sq_tup ha, at2, le_line (by simp), fun p H1 n1 s1 h1 => ?_⟩
    exact k p _ H1 n1 s1 h1 ⟨hx.tm (tm_same s1), hy.tm (tm_same s1), trivial⟩
  | opts m os =>
    obtain ⟨a, b, vs, rfl, ha, hb, al, nd, five⟩ := hq
    refine ⟨_, rfl, a, _, 0, _, rfl, rfl, sq_tup ha, at0, rfl, _, rfl, it_n (by cases m <;> decide +kernel) ?_⟩
    refine ⟨_, rfl, a, _, 0, _, rfl, rfl, sq_tup ha, at0, aW, _, rfl, .inr (T.qW _), rfl, rfl, _, rfl, it_y (by cases m <;> decide +kernel) ?_⟩
    refine ⟨_, rfl, a, _, 1, _, rfl, rfl, sq_tup ha, at1, b, rfl, ⟨_, sq_tup hb⟩, fun D nD => ?_⟩
    have hlen := al.len
    refine lc_tup (K := K) (a := b) (xs := vs) (fun i H' => ∃ ys, H' D = some (.lst ys) ∧ Same H H' ∧ ys.length = i ∧ All2 (fun v o => OxAt H' o v) ys ((os.map (·.2)).take i))
      ⟨[], upd_same, same_upd nD, rfl, trivial⟩ (fun i H' _ ⟨_, _, s1, _⟩ => sq_tup (s1 _ _ hb)) ?_ ?_
    · rintro i x H' hi ⟨ys, hD, s1, yl, aly⟩
      obtain ⟨o, ho, c, y, rfl, hc, hy⟩ := al.get hi
      have hc1 := s1 _ _ hc
      refine ⟨c, _, rfl, sq_tup hc1, rfl, _, _, rfl, _, _, rfl, rfl, rfl, ?_⟩
      have hi2 := (List.getElem?_eq_some_iff.mp ho).1
      refine ⟨_, rfl, ys, hD, lt_line (by omega), ?_⟩
      have s2 : Same H (upd H' D (.lst (ys ++ [y]))) := same_but s1 but_upd nD
      have t2 : Tm H' (upd H' D (.lst (ys ++ [y]))) := tm_lst but_upd hD
      refine ⟨_, upd_same, s2, by simp [yl], ?_⟩
      rw [take_snoc (e := o.2) (by rw [List.getElem?_map, ho]; rfl)]
      exact All2.snoc (aly.imp fun _ _ q => q.tm t2) (hy.tm (tm_same s2))
    · rintro H' ⟨ys, hD, s1, yl, aly⟩
      refine k D ys H' nD s1 hD ?_
      rw [List.take_of_length_le (by rw [List.length_map]; omega)] at aly
      exact aly
abbrev s_expressions_of : Stmt := top 7
theorem sc_expressions_of : FnScope ["field", "found", "expression"] ["field"] (defScope s_expressions_of) := ⟨rfl, rfl, rfl, by decide +kernel, rfl, by decide +kernel, by decide +kernel⟩
theorem ok_expressions_of {f : Addr} {fd : FuncData} (T : Txt K mg w cSc cSv aW aP aN aO aA) (F : Fun K "expressions_of" "expressions_of" s_expressions_of f fd) (G_kind_expressions : Has P w K mg base "kind_expressions" 1 ["kind"] spKindExprs) :
    FnOk P w K mg base CX0 2 f fd ["field"] spExprs := by
  refine F.ok sc_expressions_of (fun vs H Q E h => ?_) (fun cdv A outer s H vs Q E hr h => ?_)
  · obtain ⟨e, v, rfl, _⟩ := h
    rfl
  obtain ⟨g, v, rfl, hf, k⟩ := h
  obtain ⟨a, z, x, y, r, rfl, ha, hx, hb⟩ := hf.view
  refine ⟨_, (pss_cons (ps_set (i := 1) sc_expressions_of.nd rfl (Or.inl rfl) (pe_lstN (pa_cons (pe_ix ix_tup (pv 0) pe_int (fun _ _ => rfl)) pa_nil)))
      (pss_cons (ps_if (pt_cmpR op_eq (pe_ix ix_tup (pv 0) pe_int (fun _ _ => rfl)) pe_str (nomark _))
        (pss_one (ps_expr (pe_bm PySem.F.plainAttrs_list PySem.F.slot_list_extend PySem.F.type_list_extend mt_extendN (pv 1) (pa_cons (pe_callH G_kind_expressions (hr.mono (by omega)) (by rfl) (pa_cons (pe_ix ix_tup (pv 0) pe_int (fun _ _ => rfl)) pa_nil)) pa_nil))))
        (pss_one (ps_expr (pe_bm PySem.F.plainAttrs_list PySem.F.slot_list_append PySem.F.type_list_append mt_appendN (pv 1) (pa_cons (pe_ix ix_tup (pv 0) pe_int (fun _ _ => rfl)) pa_nil)))))
      (pss_one (ps_ret (pe_callTy call_tuple_ofN (by rfl) T.tuple (by decide +kernel) (pa_cons (pe_lc (own := [("expression", 2)]) (g := gName 2) (by rfl) sc_expressions_of.nd (pi_list (pv 1)) (blkOk_by (N := ["field", "found", "expression"]) (sc := defScope s_expressions_of) (by decide +kernel)) (fun _ _ _ _ _ => pg_name (i := 2) sc_expressions_of.nd rfl (Or.inl rfl) (hf := Or.inr rfl)) (fun _ _ _ _ _ => pts_one (pt_cmp (pc_notN (pv 2)))) (fun _ _ _ _ _ => (pv 2))) pa_nil)))))), ?_⟩
  refine ⟨_, rfl, a, _, 2, _, rfl, rfl, sq_tup ha, at2, le_line (by simp), fun l H1 n1 s1 h1 => ?_⟩
  -- behind the list of what is there or not
  have tail : ∀ (xs : List V) (H2 : Hp), Same H H2 → H2 l = some (.lst xs) → xs.length ≤ 100 → All2 (fun v o => OxAt H2 o v) xs (fOpts g) →
      tRet (tCB (fun xs H Q => ∃ p ys, xs = [V.ref p] ∧ SqL K H p ys ∧ ∀ l H', H l = none → Same H H' → H' l = some (.tup ys) → Q (.ref l) H')
        (tCons (tLc (iList K (tVar 1)) (gName 2) (tB (tNotN (tVar 2))) (tVar 2) [2]) tNil)) { nx := fun _ H' => Q .non H', rt := Q } [some (.ref a), some (.ref l), none] H2 := by
    intro xs H2 s2 h2 few al
    refine ⟨_, rfl, l, rfl, ⟨_, SqL.of h2⟩, fun D nD => ?_⟩
    have hlen := al.len
    refine lc_list (K := K) (a := l) (xs := xs) (fun i H' => ∃ ys, H' D = some (.lst ys) ∧ Same H2 H' ∧ ys.length ≤ i ∧ All2 (fun v e => ExAt H' e v) ys (((fOpts g).take i).filterMap id))
      ⟨[], upd_same, same_upd nD, Nat.zero_le _, trivial⟩ (fun i H' _ ⟨_, _, s3, _⟩ => SqL.of (s3 _ _ h2)) ?_ ?_
    · rintro i u H' hi ⟨ys, hD, s3, yl, aly⟩
      obtain ⟨o, ho, hu⟩ := al.get hi
      have hi2 := (List.getElem?_eq_some_iff.mp hi).1
      have ts := take_snoc ho
      cases o with
      | none =>
        have hu : u = .non := hu
        subst hu
        refine ⟨rfl, _, rfl, _, rfl, it_n rfl ?_⟩
        refine ⟨ys, hD, s3, by omega, ?_⟩
        rw [ts, List.filterMap_append]
        simpa using aly
      | some e =>
        have hu : ExAt H2 e u := hu
        obtain ⟨c, zs, rfl, hc⟩ := hu.ref
        refine ⟨rfl, _, rfl, _, rfl, it_y rfl ?_⟩
        refine ⟨_, rfl, ys, hD, lt_line (by omega), ?_⟩
        have s4 : Same H2 (upd H' D (.lst (ys ++ [.ref c]))) := same_but s3 but_upd nD
        have t4 : Tm H' (upd H' D (.lst (ys ++ [.ref c]))) := tm_lst but_upd hD
        refine ⟨_, upd_same, s4, by rw [List.length_append, List.length_singleton]; omega, ?_⟩
        rw [ts, List.filterMap_append]
        exact All2.snoc (aly.imp fun _ _ q => q.tm t4) (hu.tm (tm_same s4))
    · rintro H' ⟨ys, hD, s3, yl, aly⟩
      refine ⟨D, ys, rfl, SqL.of hD, fun p H4 n4 s4 h4 => ?_⟩
      refine k p ys H4 ((s2.trans s3).trans s4) h4 ?_
      rw [List.take_of_length_le (by omega), ← fOpts_eq] at aly
      exact aly.imp fun _ _ q => q.tm (tm_same s4)
  have ha1 := s1 _ _ ha
  have hx1 := hx.tm (tm_same s1)
  cases hbd : g.body with
  | q q0 r0 =>
    rw [hbd] at hb
    obtain ⟨rfl, hq⟩ := hb
    refine ⟨_, rfl, a, _, 0, _, rfl, rfl, sq_tup ha1, at0, rfl, _, rfl, it_y (by decide +kernel) ?_⟩
    refine ⟨_, rfl, .inl ⟨rfl, _, SqL.of h1⟩, _, rfl, a, _, 3, _, rfl, rfl, sq_tup ha1, at3, q0, y, rfl, hq.tm (tm_same s1), fun p xs H2 n2 s2 h2 al => ?_⟩
    have h1' := s2 _ _ h1
    have few : xs.length ≤ 10 := by
      rw [al.len]
      cases q0 with
      | truth => simp [qOpts]
      | text => simp [qOpts]
      | integer lo hi => simp [qOpts]
      | opts m os =>
        obtain ⟨_, _, _, _, _, _, _, _, five⟩ := hq
        simp only [qOpts, List.length_map]
        omega
    refine ⟨l, p, _, xs, rfl, rfl, h1', h2, le_line (by simp; omega), fun H3 b3 h3 => ?_⟩
    have t3 := tm_lst b3 h1'
    refine tail _ H3 (same_but (s1.trans s2) b3 n1) h3 (by simp; omega) ?_
    unfold fOpts
    rw [hbd]
    exact ⟨(hx1.tm (tm_same s2)).tm t3, al.imp fun _ _ q => q.tm t3⟩
  | fm e =>
    rw [hbd] at hb
    obtain ⟨rfl, he⟩ := hb
    refine ⟨_, rfl, a, _, 0, _, rfl, rfl, sq_tup ha1, at0, rfl, _, rfl, it_n (by decide +kernel) ?_⟩
    refine ⟨_, rfl, .inl ⟨rfl, _, SqL.of h1⟩, _, rfl, a, _, 3, _, rfl, rfl, sq_tup ha1, at3, l, _, _, rfl, rfl, h1, lt_line (by simp), fun H2 b2 h2 => ?_⟩
    have t2 := tm_lst b2 h1
    refine tail _ H2 (same_but s1 b2 n1) h2 (by simp) ?_
    unfold fOpts
    rw [hbd]
    exact ⟨hx1.tm t2, (he.tm (tm_same s1)).tm t2, trivial⟩
  | rl e b =>
    rw [hbd] at hb
    obtain ⟨rfl, he⟩ := hb
    refine ⟨_, rfl, a, _, 0, _, rfl, rfl, sq_tup ha1, at0, rfl, _, rfl, it_n (by decide +kernel) ?_⟩
    refine ⟨_, rfl, .inl ⟨rfl, _, SqL.of h1⟩, _, rfl, a, _, 3, _, rfl, rfl, sq_tup ha1, at3, l, _, _, rfl, rfl, h1, lt_line (by simp), fun H2 b2 h2 => ?_⟩
    have t2 := tm_lst b2 h1
    refine tail _ H2 (same_but s1 b2 n1) h2 (by simp) ?_
    unfold fOpts
    rw [hbd]
    exact ⟨hx1.tm t2, (he.tm (tm_same s1)).tm t2, trivial⟩
end
end FF
/-! The class of scopes. -/
namespace FF
open PySem L2

theorem fNe1 : ¬ (("names" : Str) = "over") := by decide +kernel
theorem fNe2 : ¬ (("names" : Str) = "sections") := by decide +kernel
theorem fNe3 : ¬ (("names" : Str) = "has_row") := by decide +kernel
theorem fNe4 : ¬ (("over" : Str) = "sections") := by decide +kernel
theorem fNe5 : ¬ (("over" : Str) = "has_row") := by decide +kernel
theorem fNe6 : ¬ (("sections" : Str) = "has_row") := by decide +kernel
theorem put_cons_ne {f g : Str} {v x : V} {fs : List (Str × V)} (h : ¬ g = f) : putF f v ((g, x) :: fs) = (g, x) :: putF f v fs := by
  show (if g = f then (g, v) :: fs else (g, x) :: putF f v fs) = _
  rw [if_neg h]
theorem put_cons_eq {f : Str} {v x : V} {fs : List (Str × V)} : putF f v ((f, x) :: fs) = (f, v) :: fs := by
  show (if f = f then (f, v) :: fs else (f, x) :: putF f v fs) = _
  rw [if_pos rfl]
theorem look_eq {f : Str} {x : V} {fs : List (Str × V)} : ((f, x) :: fs).lookup f = some x := by
  rw [List.lookup_cons, beq_self_eq_true]
theorem look_ne {f g : Str} {x : V} {fs : List (Str × V)} (h : ¬ g = f) : ((g, x) :: fs).lookup f = fs.lookup f := by
  rw [List.lookup_cons, show (f == g) = false from beq_eq_false_iff_ne.mpr fun e => h e.symm]
section
variable (n o m : Addr) (r : Bool) (v : V)
theorem scF_mk : putF "has_row" (.bl r) (putF "sections" (.ref m) (putF "over" (.ref o) (putF "names" (.ref n) []))) = scF n o m r := by
  show putF "has_row" (.bl r) (putF "sections" (.ref m) (putF "over" (.ref o) [(("names" : Str), V.ref n)])) = _
  rw [put_cons_ne fNe1]
  show putF "has_row" (.bl r) (putF "sections" (.ref m) [(("names" : Str), V.ref n), (("over" : Str), V.ref o)]) = _
  rw [put_cons_ne fNe2, put_cons_ne fNe4]
  show putF "has_row" (.bl r) [(("names" : Str), V.ref n), (("over" : Str), V.ref o), (("sections" : Str), V.ref m)] = _
  rw [put_cons_ne fNe3, put_cons_ne fNe5, put_cons_ne fNe6]
  rfl
theorem svF_mk : putF "sections" (.ref m) (putF "over" (.ref o) (putF "names" (.ref n) [])) = svF n o m := by
  show putF "sections" (.ref m) (putF "over" (.ref o) [(("names" : Str), V.ref n)]) = _
  rw [put_cons_ne fNe1]
  show putF "sections" (.ref m) [(("names" : Str), V.ref n), (("over" : Str), V.ref o)] = _
  rw [put_cons_ne fNe2, put_cons_ne fNe4]
  rfl
theorem scF_p1 (n' : Addr) : putF "names" (.ref n') (scF n o m r) = scF n' o m r := put_cons_eq
theorem scF_p2 (o' : Addr) : putF "over" (.ref o') (scF n o m r) = scF n o' m r := by
  unfold scF; rw [put_cons_ne fNe1, put_cons_eq]
theorem scF_p3 (m' : Addr) : putF "sections" (.ref m') (scF n o m r) = scF n o m' r := by
  unfold scF; rw [put_cons_ne fNe2, put_cons_ne fNe4, put_cons_eq]
theorem scF_p4 (r' : Bool) : putF "has_row" (.bl r') (scF n o m r) = scF n o m r' := by
  unfold scF; rw [put_cons_ne fNe3, put_cons_ne fNe5, put_cons_ne fNe6, put_cons_eq]
theorem scF_n : (scF n o m r).lookup ("names" : Str) = some (.ref n) := look_eq
theorem scF_o : (scF n o m r).lookup ("over" : Str) = some (.ref o) := by unfold scF; rw [look_ne fNe1, look_eq]
theorem scF_m : (scF n o m r).lookup ("sections" : Str) = some (.ref m) := by unfold scF; rw [look_ne fNe2, look_ne fNe4, look_eq]
theorem scF_r : (scF n o m r).lookup ("has_row" : Str) = some (.bl r) := by unfold scF; rw [look_ne fNe3, look_ne fNe5, look_ne fNe6, look_eq]
theorem svF_n : (svF n o m).lookup ("names" : Str) = some (.ref n) := look_eq
theorem svF_o : (svF n o m).lookup ("over" : Str) = some (.ref o) := by unfold svF; rw [look_ne fNe1, look_eq]
theorem svF_m : (svF n o m).lookup ("sections" : Str) = some (.ref m) := by unfold svF; rw [look_ne fNe2, look_ne fNe4, look_eq]
theorem scF_no {f : Str} (h1 : ¬ ("names" : Str) = f) (h2 : ¬ ("over" : Str) = f) (h3 : ¬ ("sections" : Str) = f) (h4 : ¬ ("has_row" : Str) = f) : (scF n o m r).lookup f = none := by
  unfold scF; rw [look_ne h1, look_ne h2, look_ne h3, look_ne h4]; rfl
theorem svF_no {f : Str} (h1 : ¬ ("names" : Str) = f) (h2 : ¬ ("over" : Str) = f) (h3 : ¬ ("sections" : Str) = f) : (svF n o m).lookup f = none := by
  unfold svF; rw [look_ne h1, look_ne h2, look_ne h3]; rfl
end
theorem kind_no (n o m : Addr) (r : Bool) : (scF n o m r).lookup ("kind" : Str) = none := scF_no _ _ _ _ (by decide +kernel) (by decide +kernel) (by decide +kernel) (by decide +kernel)
theorem op_no (n o m : Addr) (r : Bool) : (scF n o m r).lookup ("op" : Str) = none := scF_no _ _ _ _ (by decide +kernel) (by decide +kernel) (by decide +kernel) (by decide +kernel)
theorem ask_no (n o m : Addr) (r : Bool) : (scF n o m r).lookup ("ask" : Str) = none := scF_no _ _ _ _ (by decide +kernel) (by decide +kernel) (by decide +kernel) (by decide +kernel)
theorem choice_no (n o m : Addr) (r : Bool) : (scF n o m r).lookup ("choice" : Str) = none := scF_no _ _ _ _ (by decide +kernel) (by decide +kernel) (by decide +kernel) (by decide +kernel)

/-! ### a kind as a datum -/
def dk : Option Kd → PyData
  | none => .none
  | some k => .str k.z
theorem dp_oV {K : PySem.W.Frag} {H : Hp} (k : Option Kd) : Dp K H (oV k) (dk k) := by
  cases k with
  | none => exact .non
  | some k => exact .str _
theorem dp_pair {K : PySem.W.Frag} {H : Hp} {a : Addr} {x y : V} {d e : PyData} (h : H a = some (.tup [x, y])) (hx : Dp K H x d) (hy : Dp K H y e) : Dp K H (.ref a) (.tuple [d, e]) := .tup (sq_tup h) (.cons hx (.cons hy .nil))
theorem shaped_pair (a b : Option Kd) : SeqAt.shaped (.tuple [dk a, dk b]) = true := by
  rcases a with _ | a <;> rcases b with _ | b <;> (try cases a) <;> (try cases b) <;> decide +kernel
theorem eqv_dk (a : Option Kd) (k : Kd) : PyData.eqv (dk a) (dk (some k)) = decide (a = some k) := by
  cases a with
  | none => rfl
  | some j =>
    show (j.z == k.z) = _
    by_cases e : j = k
    · subst e; simp
    · have : ¬ j.z = k.z := fun q => e (kz_inj j k q)
      simp [e, this]
theorem eqv_pair (a b : Option Kd) (k : Kd) : PyData.eqv (.tuple [dk a, dk b]) (.tuple [dk (some k), dk (some k)]) = decide (a = some k ∧ b = some k) := by
  show (PyData.eqv (dk a) (dk (some k)) && (PyData.eqv (dk b) (dk (some k)) && true)) = _
  rw [eqv_dk, eqv_dk, Bool.and_true, Bool.decide_and]
theorem scal_oV (a b : Option Kd) : scal (oV a) (oV b) = true := by
  cases a <;> cases b <;> rfl
theorem dec_oV (a b : Option Kd) : decide (oV a = oV b) = decide (a = b) := by
  by_cases e : a = b
  · subst e; simp
  · rw [decide_eq_false e, decide_eq_false fun q => e (oV_inj q)]
theorem flat_oV (a : Option Kd) : flatV (oV a) = true := by cases a <;> rfl
theorem oV_some (k : Kd) : oV (some k) = .str k.z := rfl

/-! ### promises -/
def spScInit (C : Addr) : Sp := fun vs H Q _ => ∃ p dx, vs = [.ref p] ∧ H p = some (.ins C dx []) ∧ ∀ n o m H', But p H H' → H' p = some (.ins C dx (scF n o m false)) → Q .non H'
def spKind (C : Addr) (n : Nat) : Sp := fun vs H Q _ => ∃ (p : Addr) (e : Ex) (v : V) (s : Sc), vs = [.ref p, v] ∧ ScAt C H p s ∧ ExAt H e v ∧ e.ht < n ∧ ∀ H', Same H H' → Q (oV (kindM s e)) H'
def spOp (C : Addr) (n : Nat) : Sp := fun vs H Q _ => ∃ (p : Addr) (g : Sg) (a b : Ex) (v u : V) (s : Sc), vs = [.ref p, .str g.z, v, u] ∧ ScAt C H p s ∧ ExAt H a v ∧ ExAt H b u ∧ a.ht < n ∧ b.ht < n ∧ ∀ H', Same H H' → Q (oV (opM g (kindM s a) (kindM s b))) H'
def spAsk (C : Addr) : Sp := fun vs H Q _ => ∃ (p : Addr) (g : Fn) (x : Str) (s : Sc), vs = [.ref p, .str g.z, .str x] ∧ ScAt C H p s ∧ ∀ H', Same H H' → Q (oV (askM s g x)) H'
def spChoice (C : Addr) (n : Nat) : Sp := fun vs H Q _ => ∃ (p : Addr) (c a b : Ex) (z v u : V) (s : Sc), vs = [.ref p, z, v, u] ∧ ScAt C H p s ∧ ExAt H c z ∧ ExAt H a v ∧ ExAt H b u ∧ c.ht < n ∧ a.ht < n ∧ b.ht < n ∧
  ∀ H', Same H H' → Q (oV (if kindM s c = some .truth ∧ kindM s a = kindM s b then kindM s a else none)) H'
theorem sgClass (g : Sg) :
    (inV (.str g.z) [.str "or", .str "and"] = true ∧ ∀ a b, opM g a b = if a = some .truth ∧ b = some .truth then some .truth else none) ∨
    (inV (.str g.z) [.str "or", .str "and"] = false ∧ inV (.str g.z) [.str "+", .str "-", .str "*"] = true ∧ ∀ a b, opM g a b = if a = some .number ∧ b = some .number then some .number else none) ∨
    (inV (.str g.z) [.str "or", .str "and"] = false ∧ inV (.str g.z) [.str "+", .str "-", .str "*"] = false ∧ inV (.str g.z) [.str "<", .str "<=", .str ">", .str ">="] = true ∧ ∀ a b, opM g a b = if a = some .number ∧ b = some .number then some .truth else none) ∨
    (inV (.str g.z) [.str "or", .str "and"] = false ∧ inV (.str g.z) [.str "+", .str "-", .str "*"] = false ∧ inV (.str g.z) [.str "<", .str "<=", .str ">", .str ">="] = false ∧
      ∀ a b, opM g a b = if a = none ∨ a ≠ b then none else if g.z = "??" then a else some .truth) := by
  cases g with
  | or => exact .inl ⟨by decide +kernel, fun _ _ => rfl⟩
  | and => exact .inl ⟨by decide +kernel, fun _ _ => rfl⟩
  | add => exact .inr (.inl ⟨by decide +kernel, by decide +kernel, fun _ _ => rfl⟩)
  | sub => exact .inr (.inl ⟨by decide +kernel, by decide +kernel, fun _ _ => rfl⟩)
  | mul => exact .inr (.inl ⟨by decide +kernel, by decide +kernel, fun _ _ => rfl⟩)
  | lt => exact .inr (.inr (.inl ⟨by decide +kernel, by decide +kernel, by decide +kernel, fun _ _ => rfl⟩))
  | ge => exact .inr (.inr (.inl ⟨by decide +kernel, by decide +kernel, by decide +kernel, fun _ _ => rfl⟩))
  | eq => exact .inr (.inr (.inr ⟨by decide +kernel, by decide +kernel, by decide +kernel, fun a b => by rw [if_neg (by decide +kernel : ¬ Sg.eq.z = "??")]; rfl⟩))
  | ne => exact .inr (.inr (.inr ⟨by decide +kernel, by decide +kernel, by decide +kernel, fun a b => by rw [if_neg (by decide +kernel : ¬ Sg.ne.z = "??")]; rfl⟩))
  | els => exact .inr (.inr (.inr ⟨by decide +kernel, by decide +kernel, by decide +kernel, fun a b => by rw [if_pos (by decide +kernel : Sg.els.z = "??")]; rfl⟩))
section
variable {P : Program} {w : World} {K : PySem.W.Frag} {mg : Str → Option Value} {base : Heap} {cSc cSv aW aP aN aO aA : Addr}
abbrev s_Scope___init__ : Stmt := inClass (top 13) 0
theorem sc_Scope___init__ : FnScope ["self"] ["self"] (defScope s_Scope___init__) := ⟨rfl, rfl, rfl, by decide +kernel, rfl, by decide +kernel, by decide +kernel⟩
theorem ok_sc_init {f : Addr} {fd : FuncData} (T : Txt K mg w cSc cSv aW aP aN aO aA) (F : Fun K "__init__" "Scope.__init__" s_Scope___init__ f fd) : FnOk P w K mg base CX0 1 f fd ["self"] (spScInit cSc) := by
  refine F.ok sc_Scope___init__ (fun vs H Q E h => ?_) (fun cdv A outer s H vs Q E hr h => ?_)
  · obtain ⟨e, v, rfl, _⟩ := h
    rfl
  obtain ⟨p, dx, rfl, hp, k⟩ := h
  refine ⟨_, (pss_cons (ps_fldN (pv 0) pe_dnewN rfl)
      (pss_cons (ps_fldN (pv 0) pe_dnewN rfl)
      (pss_cons (ps_fldN (pv 0) pe_dnewN rfl)
      (pss_one (ps_fldN (pv 0) pe_bl rfl))))), ?_⟩
  intro n H1 n1 s1 h1
  refine ⟨_, rfl, p, cSc, dx, _, rfl, s1 _ _ hp, T.cl_Scope, T.n1, by decide, fun H2 b2 h2 => ?_⟩
  intro o H3 n3 s3 h3
  refine ⟨_, rfl, p, cSc, dx, _, rfl, s3 _ _ h2, T.cl_Scope, T.n2, Nat.lt_of_le_of_lt (length_putF _ _ _) (by decide), fun H4 b4 h4 => ?_⟩
  intro m H5 n5 s5 h5
  refine ⟨_, rfl, p, cSc, dx, _, rfl, s5 _ _ h4, T.cl_Scope, T.n3, Nat.lt_of_le_of_lt (length_putF _ _ _) (Nat.lt_of_le_of_lt (Nat.succ_le_succ (length_putF _ _ _)) (by decide)), fun H6 b6 h6 => ?_⟩
  refine ⟨_, rfl, p, cSc, dx, _, rfl, h6, T.cl_Scope, T.n4, ?_, fun H7 b7 h7 => ?_⟩
  · have e1 := length_putF "sections" (V.ref m) (putF "over" (.ref o) (putF "names" (.ref n) []))
    have e2 := length_putF "over" (V.ref o) (putF "names" (.ref n) [])
    have e3 := length_putF "names" (V.ref n) []
    simp only [List.length_nil] at e3
    omega
  · refine k n o m H7 ?_ (by rw [h7, scF_mk])
    exact ((((((But.of_same s1).trans b2).trans (But.of_same s3)).trans b4).trans (But.of_same s5)).trans b6).trans b7
abbrev s_Scope_op : Stmt := inClass (top 13) 1
theorem sc_Scope_op : FnScope ["self", "sign", "one", "other", "kinds", "told"] ["self", "sign", "one", "other"] (defScope s_Scope_op) := ⟨rfl, rfl, rfl, by decide +kernel, rfl, by decide +kernel, by decide +kernel⟩
theorem ok_sc_op {n : Nat} {f : Addr} {fd : FuncData} (T : Txt K mg w cSc cSv aW aP aN aO aA) (F : Fun K "op" "Scope.op" s_Scope_op f fd) (G_Scope_kind : HasM P w K mg base cSc "kind" (2 * n) ["self", "expression"] (spKind cSc n)) :
    FnOk P w K mg base CX0 (2 * n + 1) f fd ["self", "sign", "one", "other"] (spOp cSc n) := by
  refine F.ok sc_Scope_op (fun vs H Q E h => ?_) (fun cdv A outer s H vs Q E hr h => ?_)
  · obtain ⟨p, g, a, b, v, u, s, rfl, _⟩ := h
    rfl
  obtain ⟨p, g, a, b, v, u, sc, rfl, hs, ha, hb, ta, tb, k⟩ := h
  refine ⟨_, (pss_cons (ps_set (i := 4) sc_Scope_op.nd rfl (Or.inl rfl) (pe_tupN (pa_cons (pe_methH (pv 0) T.cl_Scope G_Scope_kind (hr.mono (by omega)) (pa_cons (pv 2) pa_nil)) (pa_cons (pe_methH (pv 0) T.cl_Scope G_Scope_kind (hr.mono (by omega)) (pa_cons (pv 3) pa_nil)) pa_nil))))
      (pss_cons (ps_if (pt_cmpR op_in_seq (pv 1) (pe_tupN (pa_cons pe_str (pa_cons pe_str pa_nil))) (by rfl))
        (pss_one (ps_ret (pe_ifExp (pt_cmpR (op_eqD hr.units) (pv 4) (pe_tupN (pa_cons pe_str (pa_cons pe_str pa_nil))) (nomark _)) pe_str pe_non)))
        pss_nil)
      (pss_cons (ps_if (PW.pt (pw_or (pt_cmpR op_in_seq (pv 1) (pe_glob (v := .ref aN) (by rfl) T.mN rfl) (by rfl)) (pw_or1 (pt_cmpR op_in_seq (pv 1) (pe_glob (v := .ref aO) (by rfl) T.mO rfl) (by rfl)))))
        (pss_cons (ps_set (i := 5) sc_Scope_op.nd rfl (Or.inl rfl) (pe_ifExp (pt_cmpR op_in_seq (pv 1) (pe_glob (v := .ref aN) (by rfl) T.mN rfl) (by rfl)) pe_str pe_str))
        (pss_one (ps_ret (pe_ifExp (pt_cmpR (op_eqD hr.units) (pv 4) (pe_tupN (pa_cons pe_str (pa_cons pe_str pa_nil))) (nomark _)) (pv 5) pe_non))))
        pss_nil)
      (pss_cons (ps_if (PW.pt (pw_or (pt_cmp (pc_isN (pe_ix ix_tup (pv 4) pe_int (fun _ _ => rfl)))) (pw_or1 (pt_cmpR op_ne (pe_ix ix_tup (pv 4) pe_int (fun _ _ => rfl)) (pe_ix ix_tup (pv 4) pe_int (fun _ _ => rfl)) (nomark _)))))
        (pss_one (ps_ret pe_non))
        pss_nil)
      (pss_one (ps_ret (pe_ifExp (pt_cmpR op_eq (pv 1) pe_str (nomark _)) (pe_ix ix_tup (pv 4) pe_int (fun _ _ => rfl)) pe_str))))))), ?_⟩
  obtain ⟨dx, n1, o1, m1, hp, _⟩ := id hs
  refine ⟨_, rfl, p, dx, _, rfl, hp, kind_no _ _ _ _, _, rfl, p, a, v, sc, rfl, hs, ha, ta, fun H1 s1 => ?_⟩
  refine ⟨_, rfl, p, dx, _, rfl, s1 _ _ hp, kind_no _ _ _ _, _, rfl, p, b, u, sc, rfl, hs.same s1, hb.tm (tm_same s1), tb, fun H2 s2 => ?_⟩
  refine ⟨le_line (by simp), fun q H3 _ s3 h3 => ?_⟩
  have s13 := (s1.trans s2).trans s3
  generalize kindM sc a = ka at *
  generalize kindM sc b = kb at *
  refine ⟨_, rfl, le_line (by decide), fun q4 H4 _ s4 h4 => ⟨q4, _, rfl, .inr (sq_tup h4), rfl, rfl, _, rfl, ?_⟩⟩
  have h34 := s4 _ _ h3
  have s14 := s13.trans s4
  have pair : ∀ {H' : Hp}, Same H4 H' → Dp K H' (.ref q) (.tuple [dk ka, dk kb]) := fun s => dp_pair (s _ _ h34) (dp_oV _) (dp_oV _)
  rcases sgClass g with ⟨c, e⟩ | ⟨c, c1, e⟩ | ⟨c, c1, c2, e⟩ | ⟨c, c1, c2, e⟩
  · refine it_y c ?_
    refine ⟨_, rfl, le_line (by decide), fun q5 H5 _ s5 h5 => ⟨_, _, pair s5, dp_pair h5 (dp_oV (some .truth)) (dp_oV (some .truth)), shaped_pair _ _, shaped_pair _ _, _, rfl, ?_⟩⟩
    rw [eqv_pair]
    refine ite2 (fun c3 => ?_) (fun c3 => ?_)
    · have := k H5 (s14.trans s5)
      rw [e, if_pos (of_decide_eq_true c3)] at this
      exact this
    · have := k H5 (s14.trans s5)
      rw [e, if_neg (fun z => c3 (decide_eq_true z))] at this
      exact this
  · refine it_n c ?_
    refine ⟨_, rfl, aN, _, rfl, .inr (T.qN _), rfl, rfl, _, rfl, it_y c1 ?_⟩
    refine it_y rfl ?_
    refine ⟨_, rfl, aN, _, rfl, .inr (T.qN _), rfl, rfl, _, rfl, it_y c1 ?_⟩
    refine ⟨_, rfl, le_line (by decide), fun q5 H5 _ s5 h5 => ⟨_, _, pair s5, dp_pair h5 (dp_oV (some .number)) (dp_oV (some .number)), shaped_pair _ _, shaped_pair _ _, _, rfl, ?_⟩⟩
    rw [eqv_pair]
    refine ite2 (fun c3 => ?_) (fun c3 => ?_)
    · have := k H5 (s14.trans s5)
      rw [e, if_pos (of_decide_eq_true c3)] at this
      exact ⟨_, rfl, this⟩
    · have := k H5 (s14.trans s5)
      rw [e, if_neg (fun z => c3 (decide_eq_true z))] at this
      exact this
  · refine it_n c ?_
    refine ⟨_, rfl, aN, _, rfl, .inr (T.qN _), rfl, rfl, _, rfl, it_n c1 ?_⟩
    refine ⟨_, rfl, aO, _, rfl, .inr (T.qO _), rfl, rfl, _, rfl, it_y c2 ?_⟩
    refine ⟨_, rfl, aN, _, rfl, .inr (T.qN _), rfl, rfl, _, rfl, it_n c1 ?_⟩
    refine ⟨_, rfl, le_line (by decide), fun q5 H5 _ s5 h5 => ⟨_, _, pair s5, dp_pair h5 (dp_oV (some .number)) (dp_oV (some .number)), shaped_pair _ _, shaped_pair _ _, _, rfl, ?_⟩⟩
    rw [eqv_pair]
    refine ite2 (fun c3 => ?_) (fun c3 => ?_)
    · have := k H5 (s14.trans s5)
      rw [e, if_pos (of_decide_eq_true c3)] at this
      exact ⟨_, rfl, this⟩
    · have := k H5 (s14.trans s5)
      rw [e, if_neg (fun z => c3 (decide_eq_true z))] at this
      exact this
  · refine it_n c ?_
    refine ⟨_, rfl, aN, _, rfl, .inr (T.qN _), rfl, rfl, _, rfl, it_n c1 ?_⟩
    refine ⟨_, rfl, aO, _, rfl, .inr (T.qO _), rfl, rfl, _, rfl, it_n c2 ?_⟩
    have fin := k H4 s14
    rw [e] at fin
    have last : ¬ (ka = none ∨ ka ≠ kb) → (tRet (tIf (tTest (tOp rEq (tVar 1) (tC (V.str "??")))) (tOp (rIxT K) (tVar 4) (tC (.int 0))) (tC (.str "truth"))) { nx := fun _ H' => Q .non H', rt := Q } [some (.ref p), some (.str g.z), some v, some u, some (.ref q), none] H4) := fun nn => by
      rw [if_neg nn] at fin
      refine ⟨_, rfl, rfl, _, rfl, ?_⟩
      refine ite2 (fun c3 => ?_) (fun c3 => ?_)
      · have c4 : g.z = "??" := by
          have := of_decide_eq_true c3
          injection this
        rw [if_pos c4] at fin
        exact ⟨_, rfl, q, _, 0, _, rfl, rfl, sq_tup h34, at0, fin⟩
      · rw [if_neg fun z => c3 (by rw [z]; exact decide_eq_true rfl)] at fin
        exact fin
    refine ⟨_, rfl, q, _, 0, _, rfl, rfl, sq_tup h34, at0, _, rfl, ?_⟩
    cases ka with
    | none =>
      rw [if_pos (.inl rfl)] at fin
      exact it_y rfl (it_y rfl fin)
    | some x =>
      refine it_n rfl ?_
      refine ⟨_, rfl, q, _, 0, _, rfl, rfl, sq_tup h34, at0, _, rfl, q, _, 1, _, rfl, rfl, sq_tup h34, at1, scal_oV _ _, _, rfl, ?_⟩
      rw [dec_oV]
      by_cases e1 : some x = kb
      · rw [decide_eq_true e1]
        exact it_n rfl (last fun z => z.elim (fun q => by cases q) fun q => q e1)
      · rw [decide_eq_false e1]
        rw [if_pos (.inr e1)] at fin
        exact it_y rfl fin
end
end FF
/-! The kind of an expression, by one induction over its height. -/
namespace FF
open PySem L2
theorem di_isSome {g : Str → Option Kd} {kvs : List (Key × V)} (h : ∀ x : Str, valV kvs (.inr x) = (g x).map fun k => V.str k.z) (x : Str) : (valV kvs (.inr x)).isSome = (g x).isSome := by
  rw [h x]
  cases g x <;> rfl
theorem di_getD {g : Str → Option Kd} {kvs : List (Key × V)} (h : ∀ x : Str, valV kvs (.inr x) = (g x).map fun k => V.str k.z) (x : Str) : (valV kvs (.inr x)).getD .non = oV (g x) := by
  rw [h x]
  cases g x <;> rfl
theorem ds_isSome {g : Str → Bool} {kvs : List (Key × V)} (h : ∀ x : Str, valV kvs (.inr x) = if g x = true then some (V.bl true) else none) (x : Str) : (valV kvs (.inr x)).isSome = g x := by
  rw [h x]
  cases g x <;> rfl
theorem isD_of {H : Hp} {a : Addr} {kvs : List (Key × V)} (h : H a = some (.dK kvs)) : IsD H a := .inl ⟨kvs, .inl h⟩
theorem inV_plain (o : Option Kd) : inV (oV o) [.str "truth", .str "number", .str "option"] = match o with | none => false | some k => k.plain := by
  cases o with
  | none => rfl
  | some k => cases k <;> decide +kernel
/-- the test of a boolean that is known otherwise -/
theorem it_c {c d : Bool} {A B : Prop} (e : c = d) (h : if d = true then A else B) : if c = true then A else B := by rw [e]; exact h
section
variable {P : Program} {w : World} {K : PySem.W.Frag} {mg : Str → Option Value} {base : Heap} {cSc cSv aW aP aN aO aA : Addr}
abbrev s_Scope_ask : Stmt := inClass (top 13) 2
theorem sc_Scope_ask : FnScope ["self", "function", "name", "told"] ["self", "function", "name"] (defScope s_Scope_ask) := ⟨rfl, rfl, rfl, by decide +kernel, rfl, by decide +kernel, by decide +kernel⟩
theorem ok_sc_ask {f : Addr} {fd : FuncData} (T : Txt K mg w cSc cSv aW aP aN aO aA) (F : Fun K "ask" "Scope.ask" s_Scope_ask f fd) : FnOk P w K mg base CX0 1 f fd ["self", "function", "name"] (spAsk cSc) := by
  refine F.ok sc_Scope_ask (fun vs H Q E h => ?_) (fun cdv A outer s H vs Q E hr h => ?_)
  · obtain ⟨p, g, x, s, rfl, _⟩ := h
    rfl
  obtain ⟨p, g, x, sc, rfl, hs, k⟩ := h
  have hu := hu_of hr
  refine ⟨_, (pss_cons (ps_if (pt_cmpR op_eq (pv 1) pe_str (nomark _))
        (pss_one (ps_ret (pe_ifExp (pt_cmp (pc_din hu (pv 2) (pe_fld (pv 0) rfl))) pe_str pe_non)))
        pss_nil)
      (pss_cons (ps_if (pt_cmpR op_eq (pv 1) pe_str (nomark _))
        (pss_one (ps_ret (pe_ifExp (pt_cmp (pc_din hu (pv 2) (pe_fld (pv 0) rfl))) pe_str pe_non)))
        pss_nil)
      (pss_cons (ps_set (i := 3) sc_Scope_ask.nd rfl (Or.inl rfl) (pe_ifExp (pt_cmpR op_in_seq (pv 1) (pe_tupN (pa_cons pe_str (pa_cons pe_str pa_nil))) (by rfl)) pe_str pe_str))
      (pss_one (ps_ret (pe_ifExp (pt_cmpR op_eq (pe_dget1 hu (pe_fld (pv 0) rfl) (pv 2) ⟨rfl, rfl, rfl, rfl⟩) (pv 3) (nomark _)) (pv 3) pe_non)))))), ?_⟩
  obtain ⟨dx, n, o, m, hp, ⟨kn, hn, _, ln⟩, ⟨ko, ho, _, lo⟩, ⟨km, hm, _, lm⟩⟩ := hs
  have over : ∀ (kd : Kd) (H1 : Hp), Same H H1 → (∀ y, askM sc g x = y → y = if sc.over x = some kd then some kd else none) →
      tRet (tIf (tTest (tOp rEq (tDGet1 (tFld K (tVar 0) "over") (tVar 2)) (tVar 3))) (tVar 3) (tC .non)) { nx := fun _ H' => Q .non H', rt := Q } [some (.ref p), some (.str g.z), some (.str x), some (.str kd.z)] H1 := by
    intro kd H1 s1 hy
    refine ⟨_, rfl, p, cSc, dx, _, _, rfl, s1 _ _ hp, T.cl_Scope, T.n2, scF_o _ _ _ _, o, rfl, isD_of (s1 _ _ ho), _, rfl, _, DGet.k (k := .inr x) (s1 _ _ ho), ?_⟩
    rw [di_getD lo]
    refine ⟨_, rfl, scal_oV (sc.over x) (some kd), _, rfl, it_c (dec_oV (sc.over x) (some kd)) ?_⟩
    have fin := k H1 s1
    rw [hy _ rfl] at fin
    refine ite2 (fun c => ?_) (fun c => ?_)
    · rw [if_pos (of_decide_eq_true c)] at fin
      exact ⟨_, rfl, fin⟩
    · rw [if_neg fun z => c (decide_eq_true z)] at fin
      exact fin
  cases g with
  | answered =>
    refine ⟨_, rfl, rfl, _, rfl, it_y (by decide +kernel) ?_⟩
    refine ⟨_, rfl, _, rfl, p, cSc, dx, _, _, rfl, hp, T.cl_Scope, T.n1, scF_n _ _ _ _, n, _, rfl, DGet.k (k := .inr x) hn, _, rfl, it_c (di_isSome ln x) ?_⟩
    have fin := k H (Same.refl _)
    unfold askM at fin
    refine ite2 (fun c => ?_) (fun c => ?_)
    · rw [if_pos c] at fin
      exact fin
    · rw [if_neg c] at fin
      exact fin
  | count =>
    refine ⟨_, rfl, rfl, _, rfl, it_n (by decide +kernel) ?_⟩
    refine ⟨_, rfl, rfl, _, rfl, it_y (by decide +kernel) ?_⟩
    refine ⟨_, rfl, _, rfl, p, cSc, dx, _, _, rfl, hp, T.cl_Scope, T.n3, scF_m _ _ _ _, m, _, rfl, DGet.k (k := .inr x) hm, _, rfl, it_c (ds_isSome lm x) ?_⟩
    have fin := k H (Same.refl _)
    unfold askM at fin
    refine ite2 (fun c => ?_) (fun c => ?_)
    · rw [if_pos c] at fin
      exact fin
    · rw [if_neg c] at fin
      exact fin
  | sum =>
    refine ⟨_, rfl, rfl, _, rfl, it_n (by decide +kernel) ?_⟩
    refine ⟨_, rfl, rfl, _, rfl, it_n (by decide +kernel) ?_⟩
    refine ⟨_, rfl, le_line (by decide), fun q H1 _ s1 h1 => ⟨q, _, rfl, .inr (sq_tup h1), rfl, rfl, _, rfl, it_n (by decide +kernel) (over .number H1 s1 fun y e => e.symm)⟩⟩
  | least =>
    refine ⟨_, rfl, rfl, _, rfl, it_n (by decide +kernel) ?_⟩
    refine ⟨_, rfl, rfl, _, rfl, it_n (by decide +kernel) ?_⟩
    refine ⟨_, rfl, le_line (by decide), fun q H1 _ s1 h1 => ⟨q, _, rfl, .inr (sq_tup h1), rfl, rfl, _, rfl, it_n (by decide +kernel) (over .number H1 s1 fun y e => e.symm)⟩⟩
  | greatest =>
    refine ⟨_, rfl, rfl, _, rfl, it_n (by decide +kernel) ?_⟩
    refine ⟨_, rfl, rfl, _, rfl, it_n (by decide +kernel) ?_⟩
    refine ⟨_, rfl, le_line (by decide), fun q H1 _ s1 h1 => ⟨q, _, rfl, .inr (sq_tup h1), rfl, rfl, _, rfl, it_n (by decide +kernel) (over .number H1 s1 fun y e => e.symm)⟩⟩
  | any =>
    refine ⟨_, rfl, rfl, _, rfl, it_n (by decide +kernel) ?_⟩
    refine ⟨_, rfl, rfl, _, rfl, it_n (by decide +kernel) ?_⟩
    refine ⟨_, rfl, le_line (by decide), fun q H1 _ s1 h1 => ⟨q, _, rfl, .inr (sq_tup h1), rfl, rfl, _, rfl, it_y (by decide +kernel) (over .truth H1 s1 fun y e => e.symm)⟩⟩
  | all =>
    refine ⟨_, rfl, rfl, _, rfl, it_n (by decide +kernel) ?_⟩
    refine ⟨_, rfl, rfl, _, rfl, it_n (by decide +kernel) ?_⟩
    refine ⟨_, rfl, le_line (by decide), fun q H1 _ s1 h1 => ⟨q, _, rfl, .inr (sq_tup h1), rfl, rfl, _, rfl, it_y (by decide +kernel) (over .truth H1 s1 fun y e => e.symm)⟩⟩
abbrev s_Scope_choice : Stmt := inClass (top 13) 3
theorem sc_Scope_choice : FnScope ["self", "condition", "one", "other", "kinds"] ["self", "condition", "one", "other"] (defScope s_Scope_choice) := ⟨rfl, rfl, rfl, by decide +kernel, rfl, by decide +kernel, by decide +kernel⟩
theorem ok_sc_choice {n : Nat} {f : Addr} {fd : FuncData} (T : Txt K mg w cSc cSv aW aP aN aO aA) (F : Fun K "choice" "Scope.choice" s_Scope_choice f fd) (G_Scope_kind : HasM P w K mg base cSc "kind" (2 * n) ["self", "expression"] (spKind cSc n)) :
    FnOk P w K mg base CX0 (2 * n + 1) f fd ["self", "condition", "one", "other"] (spChoice cSc n) := by
  refine F.ok sc_Scope_choice (fun vs H Q E h => ?_) (fun cdv A outer s H vs Q E hr h => ?_)
  · obtain ⟨p, c, a, b, z, v, u, s, rfl, _⟩ := h
    rfl
  obtain ⟨p, c, a, b, z, v, u, sc, rfl, hs, hc, ha, hb, tc, ta, tb, k⟩ := h
  refine ⟨_, (pss_cons (ps_set (i := 4) sc_Scope_choice.nd rfl (Or.inl rfl) (pe_tupN (pa_cons (pe_methH (pv 0) T.cl_Scope G_Scope_kind (hr.mono (by omega)) (pa_cons (pv 2) pa_nil)) (pa_cons (pe_methH (pv 0) T.cl_Scope G_Scope_kind (hr.mono (by omega)) (pa_cons (pv 3) pa_nil)) pa_nil))))
      (pss_one (ps_ret (pe_ifExp (PW.pt (pw_and (pt_cmpR op_eq (pe_methH (pv 0) T.cl_Scope G_Scope_kind (hr.mono (by omega)) (pa_cons (pv 1) pa_nil)) pe_str (nomark _)) (pw_and1 (pt_cmpR op_eq (pe_ix ix_tup (pv 4) pe_int (fun _ _ => rfl)) (pe_ix ix_tup (pv 4) pe_int (fun _ _ => rfl)) (nomark _))))) (pe_ix ix_tup (pv 4) pe_int (fun _ _ => rfl)) pe_non)))), ?_⟩
  obtain ⟨dx, n1, o1, m1, hp, _⟩ := id hs
  refine ⟨_, rfl, p, dx, _, rfl, hp, kind_no _ _ _ _, _, rfl, p, a, v, sc, rfl, hs, ha, ta, fun H1 s1 => ?_⟩
  refine ⟨_, rfl, p, dx, _, rfl, s1 _ _ hp, kind_no _ _ _ _, _, rfl, p, b, u, sc, rfl, hs.same s1, hb.tm (tm_same s1), tb, fun H2 s2 => ?_⟩
  refine ⟨le_line (by simp), fun q H3 _ s3 h3 => ?_⟩
  have s13 := (s1.trans s2).trans s3
  refine ⟨_, rfl, p, dx, _, rfl, s13 _ _ hp, kind_no _ _ _ _, _, rfl, p, c, z, sc, rfl, hs.same s13, hc.tm (tm_same s13), tc, fun H4 s4 => ?_⟩
  have h34 := s4 _ _ h3
  have fin := k H4 (s13.trans s4)
  refine ⟨scal_oV (kindM sc c) (some .truth), _, rfl, it_c (dec_oV (kindM sc c) (some .truth)) ?_⟩
  refine ite2 (fun c1 => ?_) (fun c1 => ?_)
  · refine ⟨_, rfl, q, _, 0, _, rfl, rfl, sq_tup h34, at0, _, rfl, q, _, 1, _, rfl, rfl, sq_tup h34, at1, scal_oV _ _, _, rfl, it_c (dec_oV _ _) ?_⟩
    refine ite2 (fun c2 => ?_) (fun c2 => ?_)
    · rw [if_pos ⟨of_decide_eq_true c1, of_decide_eq_true c2⟩] at fin
      exact ⟨_, rfl, q, _, 0, _, rfl, rfl, sq_tup h34, at0, fin⟩
    · rw [if_neg fun z => c2 (decide_eq_true z.2)] at fin
      exact fin
  · rw [if_neg fun z => c1 (decide_eq_true z.1)] at fin
    exact it_n rfl fin
abbrev s_Scope_kind : Stmt := inClass (top 13) 4
theorem sc_Scope_kind : FnScope ["self", "expression", "word", "kind", "told"] ["self", "expression"] (defScope s_Scope_kind) := ⟨rfl, rfl, rfl, by decide +kernel, rfl, by decide +kernel, by decide +kernel⟩
theorem ok_sc_kind {n : Nat} {f : Addr} {fd : FuncData} (T : Txt K mg w cSc cSv aW aP aN aO aA) (F : Fun K "kind" "Scope.kind" s_Scope_kind f fd) (G_Scope_kind : HasM P w K mg base cSc "kind" (2 * n) ["self", "expression"] (spKind cSc n))
    (G_Scope_op : HasM P w K mg base cSc "op" (2 * n + 1) ["self", "sign", "one", "other"] (spOp cSc n)) (G_Scope_choice : HasM P w K mg base cSc "choice" (2 * n + 1) ["self", "condition", "one", "other"] (spChoice cSc n))
    (G_Scope_ask : HasM P w K mg base cSc "ask" 1 ["self", "function", "name"] (spAsk cSc)) :
    FnOk P w K mg base CX0 (2 * n + 2) f fd ["self", "expression"] (spKind cSc (n + 1)) := by
  refine F.ok sc_Scope_kind (fun vs H Q E h => ?_) (fun cdv A outer s H vs Q E hr h => ?_)
  · obtain ⟨p, e, v, s, rfl, _⟩ := h
    rfl
  obtain ⟨p, e, v, sc, rfl, hs, he, ht, k⟩ := h
  have hu := hu_of hr
  refine ⟨_, (pss_cons (ps_set (i := 2) sc_Scope_kind.nd rfl (Or.inl rfl) (pe_ix ix_tup (pv 1) pe_int (fun _ _ => rfl)))
      (pss_cons (ps_if (pt_cmpR op_in_seq (pv 2) (pe_glob (v := .ref aP) (by rfl) T.mP rfl) (by rfl))
        (pss_one (ps_ret (pv 2)))
        pss_nil)
      (pss_cons (ps_if (pt_cmpR op_eq (pv 2) pe_str (nomark _))
        (pss_cons (ps_set (i := 3) sc_Scope_kind.nd rfl (Or.inl rfl) (pe_dget1 hu (pe_fld (pv 0) rfl) (pe_ix ix_tup (pv 1) pe_int (fun _ _ => rfl)) ⟨rfl, rfl, rfl, rfl⟩))
        (pss_one (ps_ret (pe_ifExp (pt_cmpR op_in_seq (pv 3) (pe_glob (v := .ref aP) (by rfl) T.mP rfl) (by rfl)) (pv 3) pe_non))))
        pss_nil)
      (pss_cons (ps_if (pt_cmpR op_eq (pv 2) pe_str (nomark _))
        (pss_one (ps_ret (pe_ifExp (pt_val (pe_fld (pv 0) rfl)) pe_str pe_non)))
        pss_nil)
      (pss_cons (ps_if (pt_cmpR op_in_seq (pv 2) (pe_tupN (pa_cons pe_str (pa_cons pe_str pa_nil))) (by rfl))
        (pss_cons (ps_set (i := 4) sc_Scope_kind.nd rfl (Or.inl rfl) (pe_ifExp (pt_cmpR op_eq (pv 2) pe_str (nomark _)) pe_str pe_str))
        (pss_one (ps_ret (pe_ifExp (pt_cmpR op_eq (pe_methH (pv 0) T.cl_Scope G_Scope_kind (hr.mono (by omega)) (pa_cons (pe_ix ix_tup (pv 1) pe_int (fun _ _ => rfl)) pa_nil)) (pv 4) (nomark _)) (pv 4) pe_non))))
        pss_nil)
      (pss_cons (ps_if (pt_cmpR op_eq (pv 2) pe_str (nomark _))
        (pss_one (ps_ret (pe_methH (pv 0) T.cl_Scope G_Scope_op (hr.mono (by omega)) (pa_cons (pe_ix ix_tup (pv 1) pe_int (fun _ _ => rfl)) (pa_cons (pe_ix ix_tup (pv 1) pe_int (fun _ _ => rfl)) (pa_cons (pe_ix ix_tup (pv 1) pe_int (fun _ _ => rfl)) pa_nil))))))
        pss_nil)
      (pss_cons (ps_if (pt_cmpR op_eq (pv 2) pe_str (nomark _))
        (pss_one (ps_ret (pe_methH (pv 0) T.cl_Scope G_Scope_choice (hr.mono (by omega)) (pa_cons (pe_ix ix_tup (pv 1) pe_int (fun _ _ => rfl)) (pa_cons (pe_ix ix_tup (pv 1) pe_int (fun _ _ => rfl)) (pa_cons (pe_ix ix_tup (pv 1) pe_int (fun _ _ => rfl)) pa_nil))))))
        pss_nil)
      (pss_cons (ps_if (pt_cmpR op_eq (pv 2) pe_str (nomark _))
        (pss_one (ps_ret (pe_methH (pv 0) T.cl_Scope G_Scope_ask (hr.mono (by omega)) (pa_cons (pe_ix ix_tup (pv 1) pe_int (fun _ _ => rfl)) (pa_cons (pe_ix ix_tup (pv 1) pe_int (fun _ _ => rfl)) pa_nil)))))
        pss_nil)
      (pss_one (ps_ret (pe_ifExp (pt_cmpR op_eq (pe_dget1 hu (pe_fld (pv 0) rfl) (pe_ix ix_tup (pv 1) pe_int (fun _ _ => rfl)) ⟨rfl, rfl, rfl, rfl⟩) pe_str (nomark _)) pe_str pe_non))))))))))), ?_⟩
  obtain ⟨dx, nn, oo, mm, hp, ⟨kn, hn, _, ln⟩, _⟩ := id hs
  cases e with
  | num i =>
    obtain ⟨a, rfl, ha⟩ := he
    refine ⟨_, rfl, a, _, 0, _, rfl, rfl, sq_tup ha, at0, ?_⟩
    refine ⟨_, rfl, aP, _, rfl, .inr (T.qP _), rfl, rfl, _, rfl, it_y (by decide +kernel) ?_⟩
    exact ⟨_, rfl, k H (Same.refl _)⟩
  | opt i =>
    obtain ⟨a, rfl, ha⟩ := he
    refine ⟨_, rfl, a, _, 0, _, rfl, rfl, sq_tup ha, at0, ?_⟩
    refine ⟨_, rfl, aP, _, rfl, .inr (T.qP _), rfl, rfl, _, rfl, it_y (by decide +kernel) ?_⟩
    exact ⟨_, rfl, k H (Same.refl _)⟩
  | nam x =>
    obtain ⟨a, rfl, ha⟩ := he
    refine ⟨_, rfl, a, _, 0, _, rfl, rfl, sq_tup ha, at0, ?_⟩
    refine ⟨_, rfl, aP, _, rfl, .inr (T.qP _), rfl, rfl, _, rfl, it_n (by decide +kernel) ?_⟩
    refine ⟨_, rfl, rfl, _, rfl, it_y (by decide +kernel) ?_⟩
    refine ⟨_, rfl, p, cSc, dx, _, _, rfl, hp, T.cl_Scope, T.n1, scF_n _ _ _ _, nn, rfl, isD_of hn, _, rfl, a, _, 1, _, rfl, rfl, sq_tup ha, at1, _, DGet.k (k := .inr x) hn, ?_⟩
    rw [di_getD ln]
    have fin := k H (Same.refl _)
    refine ⟨_, rfl, aP, _, rfl, .inr (T.qP _), flat_oV _, rfl, _, rfl, it_c (inV_plain _) ?_⟩
    unfold kindM kindN at fin
    cases hx : sc.names x with
    | none =>
      rw [hx] at fin
      exact it_n rfl fin
    | some j =>
      rw [hx] at fin
      refine ite2 (fun c => ?_) (fun c => ?_)
      · have fin : Q (oV (if j.plain = true then some j else none)) H := fin
        rw [if_pos c] at fin
        exact ⟨_, rfl, fin⟩
      · have fin : Q (oV (if j.plain = true then some j else none)) H := fin
        rw [if_neg c] at fin
        exact fin
  | row =>
    obtain ⟨a, rfl, ha⟩ := he
    refine ⟨_, rfl, a, _, 0, _, rfl, rfl, sq_tup ha, at0, ?_⟩
    refine ⟨_, rfl, aP, _, rfl, .inr (T.qP _), rfl, rfl, _, rfl, it_n (by decide +kernel) ?_⟩
    refine ⟨_, rfl, rfl, _, rfl, it_n (by decide +kernel) ?_⟩
    refine ⟨_, rfl, rfl, _, rfl, it_y (by decide +kernel) ?_⟩
    refine ⟨_, rfl, p, cSc, dx, _, _, rfl, hp, T.cl_Scope, T.n4, scF_r _ _ _ _, _, rfl, ?_⟩
    have fin := k H (Same.refl _)
    unfold kindM at fin
    refine ite2 (fun c => ?_) (fun c => ?_)
    · rw [if_pos c] at fin
      exact fin
    · rw [if_neg c] at fin
      exact fin
  | not e =>
    obtain ⟨a, x, rfl, ha, hx⟩ := he
    refine ⟨_, rfl, a, _, 0, _, rfl, rfl, sq_tup ha, at0, ?_⟩
    refine ⟨_, rfl, aP, _, rfl, .inr (T.qP _), rfl, rfl, _, rfl, it_n (by decide +kernel) ?_⟩
    refine ⟨_, rfl, rfl, _, rfl, it_n (by decide +kernel) ?_⟩
    refine ⟨_, rfl, rfl, _, rfl, it_n (by decide +kernel) ?_⟩
    refine ⟨_, rfl, le_line (by decide), fun q H1 _ s1 h1 => ⟨q, _, rfl, .inr (sq_tup h1), rfl, rfl, _, rfl, it_y (by decide +kernel) ?_⟩⟩
    refine ⟨_, rfl, rfl, _, rfl, it_y (by decide +kernel) ?_⟩
    refine ⟨_, rfl, p, dx, _, rfl, s1 _ _ hp, kind_no _ _ _ _, _, rfl, a, _, 1, _, rfl, rfl, sq_tup (s1 _ _ ha), at1, p, e, x, sc, rfl, hs.same s1, hx.tm (tm_same s1), Nat.lt_of_succ_lt_succ ht, fun H2 s2 => ?_⟩
    refine ⟨_, rfl, scal_oV (kindM sc e) (some .truth), _, rfl, it_c (dec_oV (kindM sc e) (some .truth)) ?_⟩
    have fin := k H2 (s1.trans s2)
    unfold kindM at fin
    refine ite2 (fun c => ?_) (fun c => ?_)
    · rw [if_pos (of_decide_eq_true c)] at fin
      exact ⟨_, rfl, fin⟩
    · rw [if_neg fun z => c (decide_eq_true z)] at fin
      exact fin
  | op g e1 e2 =>
    obtain ⟨a, x, y, rfl, ha, hx, hy⟩ := he
    have ht : max e1.ht e2.ht + 1 < n + 1 := ht
    refine ⟨_, rfl, a, _, 0, _, rfl, rfl, sq_tup ha, at0, ?_⟩
    refine ⟨_, rfl, aP, _, rfl, .inr (T.qP _), rfl, rfl, _, rfl, it_n (by decide +kernel) ?_⟩
    refine ⟨_, rfl, rfl, _, rfl, it_n (by decide +kernel) ?_⟩
    refine ⟨_, rfl, rfl, _, rfl, it_n (by decide +kernel) ?_⟩
    refine ⟨_, rfl, le_line (by decide), fun q H1 _ s1 h1 => ⟨q, _, rfl, .inr (sq_tup h1), rfl, rfl, _, rfl, it_n (by decide +kernel) ?_⟩⟩
    have ha1 := sq_tup (K := K) (s1 _ _ ha)
    refine ⟨_, rfl, rfl, _, rfl, it_y (by decide +kernel) ?_⟩
    refine ⟨_, rfl, p, dx, _, rfl, s1 _ _ hp, op_no _ _ _ _, _, rfl, a, _, 1, _, rfl, rfl, ha1, at1, _, rfl, a, _, 2, _, rfl, rfl, ha1, at2, _, rfl, a, _, 3, _, rfl, rfl, ha1, at3, ?_⟩
    exact ⟨p, g, e1, e2, x, y, sc, rfl, hs.same s1, hx.tm (tm_same s1), hy.tm (tm_same s1), by omega, by omega, fun H2 s2 => k H2 (s1.trans s2)⟩
  | ite c e1 e2 =>
    obtain ⟨a, z, x, y, rfl, ha, hz, hx, hy⟩ := he
    have ht : max c.ht (max e1.ht e2.ht) + 1 < n + 1 := ht
    refine ⟨_, rfl, a, _, 0, _, rfl, rfl, sq_tup ha, at0, ?_⟩
    refine ⟨_, rfl, aP, _, rfl, .inr (T.qP _), rfl, rfl, _, rfl, it_n (by decide +kernel) ?_⟩
    refine ⟨_, rfl, rfl, _, rfl, it_n (by decide +kernel) ?_⟩
    refine ⟨_, rfl, rfl, _, rfl, it_n (by decide +kernel) ?_⟩
    refine ⟨_, rfl, le_line (by decide), fun q H1 _ s1 h1 => ⟨q, _, rfl, .inr (sq_tup h1), rfl, rfl, _, rfl, it_n (by decide +kernel) ?_⟩⟩
    have ha1 := sq_tup (K := K) (s1 _ _ ha)
    refine ⟨_, rfl, rfl, _, rfl, it_n (by decide +kernel) ?_⟩
    refine ⟨_, rfl, rfl, _, rfl, it_y (by decide +kernel) ?_⟩
    refine ⟨_, rfl, p, dx, _, rfl, s1 _ _ hp, choice_no _ _ _ _, _, rfl, a, _, 1, _, rfl, rfl, ha1, at1, _, rfl, a, _, 2, _, rfl, rfl, ha1, at2, _, rfl, a, _, 3, _, rfl, rfl, ha1, at3, ?_⟩
    exact ⟨p, c, e1, e2, z, x, y, sc, rfl, hs.same s1, hz.tm (tm_same s1), hx.tm (tm_same s1), hy.tm (tm_same s1), by omega, by omega, by omega, fun H2 s2 => k H2 (s1.trans s2)⟩
  | ask g x =>
    obtain ⟨a, rfl, ha⟩ := he
    refine ⟨_, rfl, a, _, 0, _, rfl, rfl, sq_tup ha, at0, ?_⟩
    refine ⟨_, rfl, aP, _, rfl, .inr (T.qP _), rfl, rfl, _, rfl, it_n (by decide +kernel) ?_⟩
    refine ⟨_, rfl, rfl, _, rfl, it_n (by decide +kernel) ?_⟩
    refine ⟨_, rfl, rfl, _, rfl, it_n (by decide +kernel) ?_⟩
    refine ⟨_, rfl, le_line (by decide), fun q H1 _ s1 h1 => ⟨q, _, rfl, .inr (sq_tup h1), rfl, rfl, _, rfl, it_n (by decide +kernel) ?_⟩⟩
    have ha1 := sq_tup (K := K) (s1 _ _ ha)
    refine ⟨_, rfl, rfl, _, rfl, it_n (by decide +kernel) ?_⟩
    refine ⟨_, rfl, rfl, _, rfl, it_n (by decide +kernel) ?_⟩
    refine ⟨_, rfl, rfl, _, rfl, it_y (by decide +kernel) ?_⟩
    refine ⟨_, rfl, p, dx, _, rfl, s1 _ _ hp, ask_no _ _ _ _, _, rfl, a, _, 1, _, rfl, rfl, ha1, at1, _, rfl, a, _, 2, _, rfl, rfl, ha1, at2, ?_⟩
    exact ⟨p, g, x, sc, rfl, hs.same s1, fun H2 s2 => k H2 (s1.trans s2)⟩
  | has x o =>
    obtain ⟨a, rfl, ha⟩ := he
    refine ⟨_, rfl, a, _, 0, _, rfl, rfl, sq_tup ha, at0, ?_⟩
    refine ⟨_, rfl, aP, _, rfl, .inr (T.qP _), rfl, rfl, _, rfl, it_n (by decide +kernel) ?_⟩
    refine ⟨_, rfl, rfl, _, rfl, it_n (by decide +kernel) ?_⟩
    refine ⟨_, rfl, rfl, _, rfl, it_n (by decide +kernel) ?_⟩
    refine ⟨_, rfl, le_line (by decide), fun q H1 _ s1 h1 => ⟨q, _, rfl, .inr (sq_tup h1), rfl, rfl, _, rfl, it_n (by decide +kernel) ?_⟩⟩
    have ha1 := sq_tup (K := K) (s1 _ _ ha)
    have hn1 := s1 _ _ hn
    refine ⟨_, rfl, rfl, _, rfl, it_n (by decide +kernel) ?_⟩
    refine ⟨_, rfl, rfl, _, rfl, it_n (by decide +kernel) ?_⟩
    refine ⟨_, rfl, rfl, _, rfl, it_n (by decide +kernel) ?_⟩
    refine ⟨_, rfl, p, cSc, dx, _, _, rfl, s1 _ _ hp, T.cl_Scope, T.n1, scF_n _ _ _ _, nn, rfl, isD_of hn1, _, rfl, a, _, 1, _, rfl, rfl, ha1, at1, _, DGet.k (k := .inr x) hn1, ?_⟩
    rw [di_getD ln]
    refine ⟨scal_oV (sc.names x) (some .options), _, rfl, it_c (dec_oV (sc.names x) (some .options)) ?_⟩
    have fin := k H1 s1
    unfold kindM at fin
    refine ite2 (fun c => ?_) (fun c => ?_)
    · rw [if_pos (of_decide_eq_true c)] at fin
      exact fin
    · rw [if_neg fun z => c (decide_eq_true z)] at fin
      exact fin
theorem sc_kind_none {f : Addr} {fd : FuncData} : FnOk P w K mg base CX0 0 f fd ["self", "expression"] (spKind cSc 0) := by
  have no : ∀ vs H Q E, ¬ spKind cSc 0 vs H Q E := fun vs H Q E h => by
    obtain ⟨_, _, _, _, _, _, _, h2, _⟩ := h
    omega
  exact ⟨fun vs H Q E h => absurd h (no vs H Q E), fun A outer s H args us vs Q E _ _ _ _ h => absurd h (no vs H Q E)⟩
theorem all_kind {f1 f2 f3 f4 : Addr} {fd1 fd2 fd3 fd4 : FuncData} (T : Txt K mg w cSc cSv aW aP aN aO aA)
    (F1 : Fun K "op" "Scope.op" s_Scope_op f1 fd1) (b1 : Binds K fd1 ["self", "sign", "one", "other"] []) (m1 : Meth K cSc "op" f1)
    (F2 : Fun K "choice" "Scope.choice" s_Scope_choice f2 fd2) (b2 : Binds K fd2 ["self", "condition", "one", "other"] []) (m2 : Meth K cSc "choice" f2)
    (F3 : Fun K "ask" "Scope.ask" s_Scope_ask f3 fd3) (b3 : Binds K fd3 ["self", "function", "name"] []) (m3 : Meth K cSc "ask" f3)
    (F4 : Fun K "kind" "Scope.kind" s_Scope_kind f4 fd4) (b4 : Binds K fd4 ["self", "expression"] []) (m4 : Meth K cSc "kind" f4) :
    ∀ n : Nat, HasM P w K mg base cSc "kind" (2 * n) ["self", "expression"] (spKind cSc n)
  | 0 => ⟨f4, fd4, sc_kind_none, m4, b4⟩
  | n + 1 => by
    have ih := all_kind T F1 b1 m1 F2 b2 m2 F3 b3 m3 F4 b4 m4 n
    exact ⟨f4, fd4, ok_sc_kind T F4 ih ⟨f1, fd1, ok_sc_op T F1 ih, m1, b1⟩ ⟨f2, fd2, ok_sc_choice T F2 ih, m2, b2⟩ ⟨f3, fd3, ok_sc_ask T F3, m3, b3⟩, m4, b4⟩
end
end FF
/-! first_known, field_kind, the class of surveys. -/
namespace FF
open PySem L2
theorem DiK.put {H' : Hp} {d : Addr} {g : Str → Option Kd} {n : Nat} {kvs : List (Key × V)} {x : Str} {k : Kd} (hl : kvs.length ≤ n) (hv : ∀ y : Str, valV kvs (.inr y) = (g y).map fun k => V.str k.z) (hx : g x = none)
    (h : H' d = some (.dK (putK kvs (.inr x) (.str k.z)))) : DiK H' d (fk g x (some k)) (n + 1) := by
  refine ⟨_, h, Nat.le_trans (length_putK _ _ _) (Nat.succ_le_succ hl), fun y => ?_⟩
  rw [valV_put]
  unfold fk
  by_cases e : y = x
  · subst e
    rw [if_pos rfl, if_pos rfl, hx]
    rfl
  · rw [if_neg fun q => e (Sum.inr.inj q), if_neg e]
    exact hv y
theorem scF_len {n o m : Addr} {r : Bool} : (scF n o m r).length < 1000 := by show 4 < 1000; decide
theorem DiK.le {H : Hp} {d : Addr} {g : Str → Option Kd} {n m : Nat} (h : DiK H d g n) (l : n ≤ m) : DiK H d g m := by
  obtain ⟨kvs, h1, h2, h3⟩ := h
  exact ⟨kvs, h1, Nat.le_trans h2 l, h3⟩
theorem DiS.le {H : Hp} {d : Addr} {g : Str → Bool} {n m : Nat} (h : DiS H d g n) (l : n ≤ m) : DiS H d g m := by
  obtain ⟨kvs, h1, h2, h3⟩ := h
  exact ⟨kvs, h1, Nat.le_trans h2 l, h3⟩
theorem fk_some {g : Str → Option Kd} {x : Str} {k : Option Kd} {j : Kd} (h : g x = some j) : fk g x k = g := by
  funext y
  unfold fk
  split
  · rename_i e
    subst e
    rw [h]
    rfl
  · rfl
theorem fk_none {g : Str → Option Kd} {x : Str} : fk g x none = g := by
  funext y
  unfold fk
  split
  · rename_i e
    subst e
    cases g y <;> rfl
  · rfl
theorem DiK.but {H H' : Hp} {l d : Addr} (b : But l H H') (n : d ≠ l) {g : Str → Option Kd} {m : Nat} (h : DiK H d g m) : DiK H' d g m := by
  obtain ⟨kvs, h1, h2⟩ := h
  exact ⟨kvs, b _ _ n h1, h2⟩
theorem DiS.but {H H' : Hp} {l d : Addr} (b : But l H H') (n : d ≠ l) {g : Str → Bool} {m : Nat} (h : DiS H d g m) : DiS H' d g m := by
  obtain ⟨kvs, h1, h2⟩ := h
  exact ⟨kvs, b _ _ n h1, h2⟩

def PrAt (H : Hp) (v : V) (p : Str × Option Kd) : Prop := ∃ a, v = .ref a ∧ H a = some (.tup [.str p.1, oV p.2])
theorem PrAt.tm {H H' : Hp} (t : Tm H H') {v : V} {p : Str × Option Kd} (h : PrAt H v p) : PrAt H' v p := by
  obtain ⟨a, e, h⟩ := h
  exact ⟨a, e, t _ _ h⟩
def OwAt (H : Hp) (l : Addr) (own : List (Str × Option Kd)) : Prop := ∃ vs, H l = some (.lst vs) ∧ All2 (PrAt H) vs own
def SvAt (C : Addr) (H : Hp) (p a b c : Addr) (sv : Sv) (n : Nat) : Prop :=
  (∃ dx, H p = some (.ins C dx (svF a b c))) ∧ DiK H a sv.names n ∧ DiK H b sv.over n ∧ DiS H c sv.secs n ∧ a ≠ b ∧ a ≠ c ∧ b ≠ c
def But3 (a b c : Addr) (H H' : Hp) : Prop := ∀ x o, x ≠ a → x ≠ b → x ≠ c → H x = some o → H' x = some o
theorem SvAt.same {C p a b c : Addr} {H H' : Hp} (s : Same H H') {sv : Sv} {n : Nat} (h : SvAt C H p a b c sv n) : SvAt C H' p a b c sv n := by
  obtain ⟨⟨dx, h1⟩, h2, h3, h4, h5⟩ := h
  exact ⟨⟨dx, s _ _ h1⟩, h2.same s, h3.same s, h4.same s, h5⟩
theorem ne_lst {H : Hp} {x l : Addr} {o : HO} {ys : List V} (hx : H x = some o) (hl : H l = some (.lst ys)) (n : ∀ zs, o ≠ .lst zs) : x ≠ l := fun e => by
  rw [e, hl] at hx
  exact n _ (Option.some.inj hx).symm
theorem SvAt.lst {C p a b c l : Addr} {H H' : Hp} {ys : List V} (b' : But l H H') (hl : H l = some (.lst ys)) {sv : Sv} {n : Nat} (h : SvAt C H p a b c sv n) : SvAt C H' p a b c sv n := by
  obtain ⟨⟨dx, h1⟩, h2, h3, h4, h5⟩ := h
  refine ⟨⟨dx, b' _ _ (ne_lst h1 hl fun _ q => by cases q) h1⟩, ?_, ?_, ?_, h5⟩
  · obtain ⟨kvs, q, _⟩ := id h2
    exact h2.but b' (ne_lst q hl fun _ q => by cases q)
  · obtain ⟨kvs, q, _⟩ := id h3
    exact h3.but b' (ne_lst q hl fun _ q => by cases q)
  · obtain ⟨kvs, q, _⟩ := id h4
    exact h4.but b' (ne_lst q hl fun _ q => by cases q)

/-! ### promises -/
def spFirst : Sp := fun vs H Q _ => ∃ (d : Addr) (x : Str) (k : Option Kd) (g : Str → Option Kd) (n : Nat), vs = [.ref d, .str x, oV k] ∧ DiK H d g n ∧ n ≤ 1000 ∧ ∀ H', But d H H' → DiK H' d (fk g x k) (n + 1) → Q .non H'
def spFieldKind (C : Addr) (n : Nat) : Sp := fun vs H Q _ => ∃ (f : Fld) (v : V) (q : Addr) (s : Sc), vs = [v, .ref q] ∧ FldAt H v f ∧ ScAt C H q s ∧ (∀ e ∈ exprsM f, e.ht < n) ∧ ∀ H', Same H H' → Q (oV (fkindM s f)) H'
def spSvInit (C : Addr) : Sp := fun vs H Q _ => ∃ p dx, vs = [.ref p] ∧ H p = some (.ins C dx []) ∧ ∀ a b c H', But p H H' → SvAt C H' p a b c sv0 0 → H a = none → H b = none → H c = none → Q .non H'
def spSvScope (S C : Addr) : Sp := fun vs H Q _ => ∃ (p a b c : Addr) (sv : Sv) (n : Nat) (vsec vown : V) (row : Bool) (own : List (Str × Option Kd)), vs = [.ref p, vsec, vown] ∧ SvAt S H p a b c sv n ∧ n + own.length ≤ 100 ∧
  ((vown = .non ∧ row = false ∧ own = []) ∨ (∃ l s, vown = .ref l ∧ OwAt H l own ∧ SctAt H vsec s ∧ row = s.rep)) ∧
  ∀ q dx n o m H', Same H H' → H' q = some (.ins C dx (scF n o m row)) → DiK H' n (fks sv.names own) 100 → DiK H' o sv.over 100 → DiS H' m sv.secs 100 → H n = none → H o = none → H m = none → Q (.ref q) H'
def spLeave (S : Addr) : Sp := fun vs H Q _ => ∃ (p a b c : Addr) (sv : Sv) (n : Nat) (vsec : V) (l : Addr) (s : Sct) (own : List (Str × Option Kd)), vs = [.ref p, vsec, .ref l] ∧ SvAt S H p a b c sv n ∧ n + own.length ≤ 100 ∧ OwAt H l own ∧ SctAt H vsec s ∧
  ∀ H', But3 a b c H H' → SvAt S H' p a b c (leaveM sv s own) (n + own.length + 1) → Q .non H'
section
variable {P : Program} {w : World} {K : PySem.W.Frag} {mg : Str → Option Value} {base : Heap} {cSc cSv aW aP aN aO aA : Addr}
abbrev s_first_known : Stmt := top 14
theorem sc_first_known : FnScope ["known", "name", "kind"] ["known", "name", "kind"] (defScope s_first_known) := ⟨rfl, rfl, rfl, by decide +kernel, rfl, by decide +kernel, by decide +kernel⟩
theorem ok_first_known {f : Addr} {fd : FuncData} (F : Fun K "first_known" "first_known" s_first_known f fd) : FnOk P w K mg base CX0 1 f fd ["known", "name", "kind"] spFirst := by
  refine F.ok sc_first_known (fun vs H Q E h => ?_) (fun cdv A outer s H vs Q E hr h => ?_)
  · obtain ⟨d, x, k, g, n, rfl, _⟩ := h
    rfl
  obtain ⟨d, x, kd, g, n, rfl, ⟨kvs, hd, hl, hv⟩, hn, k⟩ := h
  have hu := hu_of hr
  refine ⟨_, (pss_one (ps_if (PW.pt (pw_and (pt_cmp (pc_notN (pv 2))) (pw_and1 (pt_cmp (pc_dnotin hu (pv 1) (pv 0))))))
        (pss_one (ps_dputN hu (pv 0) (pv 1) (pv 2) rfl))
        pss_nil)), ?_⟩
  have same : fk g x kd = g → DiK H d (fk g x kd) (n + 1) := fun e => by
    rw [e]
    exact ⟨kvs, hd, Nat.le_succ_of_le hl, hv⟩
  cases kd with
  | none =>
    refine ⟨_, rfl, _, rfl, it_n rfl ?_⟩
    exact it_n rfl (k H (But.of_same (Same.refl _)) (same fk_none))
  | some j =>
    refine ⟨_, rfl, _, rfl, it_y rfl ?_⟩
    refine ⟨_, rfl, _, rfl, d, _, rfl, DGet.k (k := .inr x) hd, _, rfl, ?_⟩
    rw [di_isSome hv]
    cases hx : g x with
    | some i => exact it_n rfl (k H (But.of_same (Same.refl _)) (same (fk_some hx)))
    | none =>
      refine it_y rfl ?_
      exact ⟨_, rfl, _, rfl, _, rfl, d, kvs, .inr x, rfl, rfl, hd, lt_line (by omega), fun H1 b1 h1 => k H1 b1 (DiK.put hl hv hx h1)⟩
abbrev s_field_kind : Stmt := top 15
theorem sc_field_kind : FnScope ["field", "scope"] ["field", "scope"] (defScope s_field_kind) := ⟨rfl, rfl, rfl, by decide +kernel, rfl, by decide +kernel, by decide +kernel⟩
theorem ok_field_kind {n : Nat} {f : Addr} {fd : FuncData} (T : Txt K mg w cSc cSv aW aP aN aO aA) (F : Fun K "field_kind" "field_kind" s_field_kind f fd) (G_Scope_kind : HasM P w K mg base cSc "kind" (2 * n) ["self", "expression"] (spKind cSc n)) :
    FnOk P w K mg base CX0 (2 * n + 1) f fd ["field", "scope"] (spFieldKind cSc n) := by
  refine F.ok sc_field_kind (fun vs H Q E h => ?_) (fun cdv A outer s H vs Q E hr h => ?_)
  · obtain ⟨d, x, k, g, rfl, _⟩ := h
    rfl
  obtain ⟨g, v, q, sc, rfl, hf, hs, ht, k⟩ := h
  obtain ⟨a, z, x, y, r, rfl, ha, hx, hb⟩ := hf.view
  refine ⟨_, (pss_cons (ps_if (pt_cmpR op_eq (pe_ix ix_tup (pv 0) pe_int (fun _ _ => rfl)) pe_str (nomark _))
        (pss_one (ps_ret (pe_ix ix_kdict (pe_glob (v := .ref aA) (by rfl) T.mA rfl) (pe_ix ix_tup (pe_ix ix_tup (pv 0) pe_int (fun _ _ => rfl)) pe_int (fun _ _ => rfl)) (fun _ _ => rfl))))
        pss_nil)
      (pss_one (ps_ret (pe_ifExp (pt_cmpR op_eq (pe_ix ix_tup (pv 0) pe_int (fun _ _ => rfl)) pe_str (nomark _)) (pe_methH (pv 1) T.cl_Scope G_Scope_kind (hr.mono (by omega)) (pa_cons (pe_ix ix_tup (pv 0) pe_int (fun _ _ => rfl)) pa_nil)) pe_non)))), ?_⟩
  have fin := k H (Same.refl _)
  unfold fkindM at fin k
  cases hbd : g.body with
  | q q0 r0 =>
    rw [hbd] at hb fin
    obtain ⟨rfl, hq⟩ := hb
    refine ⟨_, rfl, a, _, 0, _, rfl, rfl, sq_tup ha, at0, rfl, _, rfl, it_y (by decide +kernel) ?_⟩
    cases q0 with
    | truth =>
      obtain ⟨c, rfl, hc⟩ := hq
      exact ⟨_, rfl, a, _, 3, _, rfl, rfl, sq_tup ha, at3, c, _, 0, _, rfl, rfl, sq_tup hc, at0, aA, _, _, rfl, rfl, T.kTruth, fin⟩
    | text =>
      obtain ⟨c, rfl, hc⟩ := hq
      exact ⟨_, rfl, a, _, 3, _, rfl, rfl, sq_tup ha, at3, c, _, 0, _, rfl, rfl, sq_tup hc, at0, aA, _, _, rfl, rfl, T.kText, fin⟩
    | integer lo hi =>
      obtain ⟨c, x1, y1, rfl, hc, _⟩ := hq
      exact ⟨_, rfl, a, _, 3, _, rfl, rfl, sq_tup ha, at3, c, _, 0, _, rfl, rfl, sq_tup hc, at0, aA, _, _, rfl, rfl, T.kInteger, fin⟩
    | opts m os =>
      obtain ⟨c, b, vs, rfl, hc, _⟩ := hq
      cases m with
      | false => exact ⟨_, rfl, a, _, 3, _, rfl, rfl, sq_tup ha, at3, c, _, 0, _, rfl, rfl, sq_tup hc, at0, aA, _, _, rfl, rfl, T.kChoice, fin⟩
      | true => exact ⟨_, rfl, a, _, 3, _, rfl, rfl, sq_tup ha, at3, c, _, 0, _, rfl, rfl, sq_tup hc, at0, aA, _, _, rfl, rfl, T.kChoices, fin⟩
  | fm e =>
    rw [hbd] at hb k
    obtain ⟨rfl, he⟩ := hb
    refine ⟨_, rfl, a, _, 0, _, rfl, rfl, sq_tup ha, at0, rfl, _, rfl, it_n (by decide +kernel) ?_⟩
    refine ⟨_, rfl, a, _, 0, _, rfl, rfl, sq_tup ha, at0, rfl, _, rfl, it_y (by decide +kernel) ?_⟩
    obtain ⟨dx, n1, o1, m1, hp, _⟩ := id hs
    refine ⟨_, rfl, q, dx, _, rfl, hp, kind_no _ _ _ _, _, rfl, a, _, 3, _, rfl, rfl, sq_tup ha, at3, q, e, y, sc, rfl, hs, he, ht e ?_, fun H1 s1 => k H1 s1⟩
    unfold exprsM
    rw [hbd]
    simp [bExprs]
  | rl e b =>
    rw [hbd] at hb fin
    obtain ⟨rfl, he⟩ := hb
    refine ⟨_, rfl, a, _, 0, _, rfl, rfl, sq_tup ha, at0, rfl, _, rfl, it_n (by decide +kernel) ?_⟩
    refine ⟨_, rfl, a, _, 0, _, rfl, rfl, sq_tup ha, at0, rfl, _, rfl, it_n (by decide +kernel) ?_⟩
    exact fin
abbrev s_Survey___init__ : Stmt := inClass (top 16) 0
theorem sc_Survey___init__ : FnScope ["self"] ["self"] (defScope s_Survey___init__) := ⟨rfl, rfl, rfl, by decide +kernel, rfl, by decide +kernel, by decide +kernel⟩
theorem ok_sv_init {f : Addr} {fd : FuncData} (T : Txt K mg w cSc cSv aW aP aN aO aA) (F : Fun K "__init__" "Survey.__init__" s_Survey___init__ f fd) : FnOk P w K mg base CX0 1 f fd ["self"] (spSvInit cSv) := by
  refine F.ok sc_Survey___init__ (fun vs H Q E h => ?_) (fun cdv A outer s H vs Q E hr h => ?_)
  · obtain ⟨e, v, rfl, _⟩ := h
    rfl
  obtain ⟨p, dx, rfl, hp, k⟩ := h
  refine ⟨_, (pss_cons (ps_fldN (pv 0) pe_dnewN rfl)
      (pss_cons (ps_fldN (pv 0) pe_dnewN rfl)
      (pss_one (ps_fldN (pv 0) pe_dnewN rfl)))), ?_⟩
  intro a H1 n1 s1 h1
  refine ⟨_, rfl, p, cSv, dx, _, rfl, s1 _ _ hp, T.cl_Survey, T.v1, by decide, fun H2 b2 h2 => ?_⟩
  have npa : a ≠ p := fun e => by rw [e, hp] at n1; cases n1
  have h1' := b2 _ _ npa h1
  have s12 : But p H H2 := (But.of_same s1).trans b2
  intro b H3 n3 s3 h3
  have nab : a ≠ b := fun e => by rw [e, n3] at h1'; cases h1'
  have npb : b ≠ p := fun e => by rw [e, h2] at n3; cases n3
  refine ⟨_, rfl, p, cSv, dx, _, rfl, s3 _ _ h2, T.cl_Survey, T.v2, Nat.lt_of_le_of_lt (length_putF _ _ _) (by decide), fun H4 b4 h4 => ?_⟩
  have h1'' := b4 _ _ npa (s3 _ _ h1')
  have h3' := b4 _ _ npb h3
  have s14 := (s12.trans (But.of_same s3)).trans b4
  intro c H5 n5 s5 h5
  have nac : a ≠ c := fun e => by rw [e, n5] at h1''; cases h1''
  have nbc : b ≠ c := fun e => by rw [e, n5] at h3'; cases h3'
  have npc : c ≠ p := fun e => by rw [e, h4] at n5; cases n5
  refine ⟨_, rfl, p, cSv, dx, _, rfl, s5 _ _ h4, T.cl_Survey, T.v3, Nat.lt_of_le_of_lt (length_putF _ _ _) (Nat.lt_of_le_of_lt (Nat.succ_le_succ (length_putF _ _ _)) (by decide)), fun H6 b6 h6 => ?_⟩
  have s16 := (s14.trans (But.of_same s5)).trans b6
  have free : ∀ x, x ≠ p → ∀ H', But p H H' → H' x = none → H x = none := fun x nx H' b' e => by
    cases q : H x with
    | none => rfl
    | some o =>
      rw [b' _ _ nx q] at e
      cases e
  refine k a b c H6 s16 ⟨⟨dx, by rw [h6, svF_mk]⟩, ⟨[], b6 _ _ npa (s5 _ _ h1''), Nat.le_refl _, fun _ => rfl⟩, ⟨[], b6 _ _ npb (s5 _ _ h3'), Nat.le_refl _, fun _ => rfl⟩, ⟨[], b6 _ _ npc h5, Nat.le_refl _, fun _ => rfl⟩, nab, nac, nbc⟩ n1 (free b npb H2 s12 n3) (free c npc H4 s14 n5)
abbrev s_Survey_scope : Stmt := inClass (top 16) 1
theorem sc_Survey_scope : FnScope ["self", "section", "own", "scope", "name", "kind"] ["self", "section", "own"] (defScope s_Survey_scope) := ⟨rfl, rfl, rfl, by decide +kernel, rfl, by decide +kernel, by decide +kernel⟩
theorem ok_sv_scope {f : Addr} {fd : FuncData} (T : Txt K mg w cSc cSv aW aP aN aO aA) (F : Fun K "scope" "Survey.scope" s_Survey_scope f fd) (M_Scope : HasC P w K mg base cSc "Scope" 1 ["self"] (spScInit cSc))
    (G_first_known : Has P w K mg base "first_known" 1 ["known", "name", "kind"] spFirst) : FnOk P w K mg base CX0 3 f fd ["self", "section", "own"] (spSvScope cSv cSc) := by
  refine F.ok sc_Survey_scope (fun vs H Q E h => ?_) (fun cdv A outer s H vs Q E hr h => ?_)
  · obtain ⟨p, a, b, c, sv, n, u, v, row, own, rfl, _⟩ := h
    rfl
  obtain ⟨p, a, b, c, sv, n, vsec, vown, row, own, rfl, hs, hn, hw, k⟩ := h
  refine ⟨_, (pss_cons (ps_set (i := 3) sc_Survey_scope.nd rfl (Or.inl rfl) (pe_makeH M_Scope (hr.mono (by omega)) (by rfl)))
      (pss_cons (ps_fldN (pv 3) (pe_callTy call_dictCN (by rfl) T.dict (by decide +kernel) (pa_cons (pe_fld (pv 0) rfl) pa_nil)) rfl)
      (pss_cons (ps_fldN (pv 3) (pe_callTy call_dictCN (by rfl) T.dict (by decide +kernel) (pa_cons (pe_fld (pv 0) rfl) pa_nil)) rfl)
      (pss_cons (ps_fldN (pv 3) (pe_callTy call_dictCN (by rfl) T.dict (by decide +kernel) (pa_cons (pe_fld (pv 0) rfl) pa_nil)) rfl)
      (pss_cons (ps_fldN (pv 3) (pe_and (pe_cmp (pc_notN (pv 2))) (pe_one (pe_cmpR op_gt (pe_ix ix_tup (pv 1) pe_int (fun _ _ => rfl)) pe_int (nomark _)))) rfl)
      (pss_cons (ps_for PassesOwn.never rfl (pi_list (pe_orT (pv 2) (pe_one (pe_lstN pa_nil)))) (pg_tup rfl (pgs_cons (pg_name (i := 4) sc_Survey_scope.nd rfl (Or.inl rfl) (hf := Or.inl rfl)) (pgs_cons (pg_name (i := 5) sc_Survey_scope.nd rfl (Or.inl rfl) (hf := Or.inl rfl)) pgs_nil)))
        (pss_one (ps_expr (pe_callH G_first_known (hr.mono (by omega)) (by rfl) (pa_cons (pe_fld (pv 3) rfl) (pa_cons (pv 4) (pa_cons (pv 5) pa_nil)))))))
      (pss_one (ps_ret (pv 3))))))))), ?_⟩
  obtain ⟨⟨dv, hp⟩, ⟨ka, ha, la, va⟩, ⟨kb, hb, lb, vb⟩, ⟨kc, hc, lc, vc⟩, nab, nac, nbc⟩ := id hs
  -- scope = Scope()
  intro q dx nq ndx nex
  refine ⟨q, dx, rfl, upd_same, fun n0 o0 m0 H1 b1 h1 => ⟨rfl, ?_⟩⟩
  have s1 : Same H H1 := fun y o e => b1 y o (ne_of_none e nq) (by rw [upd_ne (ne_of_none e nq), upd_ne (ne_of_none e ndx)]; exact e)
  -- the three dicts are copied
  refine ⟨_, rfl, p, cSv, dv, _, _, rfl, s1 _ _ hp, T.cl_Survey, T.v1, svF_n _ _ _, a, ka, rfl, s1 _ _ ha, fun d1 H2 e2 s2 h2 => ?_⟩
  refine ⟨_, rfl, q, cSc, dx, _, rfl, s2 _ _ h1, T.cl_Scope, T.n1, scF_len, fun H3 b3 h3 => ?_⟩
  rw [scF_p1] at h3
  have z1 : d1 ≠ q := fun e => by rw [e, h1] at e2; cases e2
  have h2 := b3 _ _ z1 h2
  have s3 : Same H H3 := same_but (s1.trans s2) b3 nq
  refine ⟨_, rfl, p, cSv, dv, _, _, rfl, s3 _ _ hp, T.cl_Survey, T.v2, svF_o _ _ _, b, kb, rfl, s3 _ _ hb, fun d2 H4 e4 s4 h4 => ?_⟩
  refine ⟨_, rfl, q, cSc, dx, _, rfl, s4 _ _ h3, T.cl_Scope, T.n2, scF_len, fun H5 b5 h5 => ?_⟩
  rw [scF_p2] at h5
  have z2 : d2 ≠ q := fun e => by rw [e, h3] at e4; cases e4
  have z12 : d1 ≠ d2 := fun e => by rw [e, e4] at h2; cases h2
  have h2 := b5 _ _ z1 (s4 _ _ h2)
  have h4 := b5 _ _ z2 h4
  have s5 : Same H H5 := same_but (s3.trans s4) b5 nq
  refine ⟨_, rfl, p, cSv, dv, _, _, rfl, s5 _ _ hp, T.cl_Survey, T.v3, svF_m _ _ _, c, kc, rfl, s5 _ _ hc, fun d3 H6 e6 s6 h6 => ?_⟩
  refine ⟨_, rfl, q, cSc, dx, _, rfl, s6 _ _ h5, T.cl_Scope, T.n3, scF_len, fun H7 b7 h7 => ?_⟩
  rw [scF_p3] at h7
  have z3 : d3 ≠ q := fun e => by rw [e, h5] at e6; cases e6
  have z13 : d1 ≠ d3 := fun e => by rw [e, e6] at h2; cases h2
  have z23 : d2 ≠ d3 := fun e => by rw [e, e6] at h4; cases h4
  have h2 := b7 _ _ z1 (s6 _ _ h2)
  have h4 := b7 _ _ z2 (s6 _ _ h4)
  have h6 := b7 _ _ z3 h6
  have s7 : Same H H7 := same_but (s5.trans s6) b7 nq
  have f1 : H d1 = none := (s1).free e2
  have f2 : H d2 = none := (s3).free e4
  have f3 : H d3 = none := (s5).free e6
  -- behind the row
  have tail : ∀ (H8 : Hp), But q H7 H8 → H8 q = some (.ins cSc dx (scF d1 d2 d3 row)) →
      tSeq (tFor (iList K (tOrT K (tVar 2) (uLst tNil))) (gTup K 2 (gCons (gName 4) (gCons (gName 5) gNil))) (tDrop (tCall spFirst [] E0 (tCons (tFld K (tVar 3) "names") (tCons (tVar 4) (tCons (tVar 5) tNil))))))
        (tRet (tVar 3)) { nx := fun _ H' => Q .non H', rt := Q } [some (.ref p), some vsec, some vown, some (.ref q), none, none] H8 := by
    intro H8 b8 h8
    have g1 := b8 _ _ z1 h2
    have g2 := b8 _ _ z2 h4
    have g3 := b8 _ _ z3 h6
    have s8 : Same H H8 := same_but s7 b8 nq
    have loop : ∀ (l : Addr) (vs : List V) (H9 : Hp), Same H8 H9 → H9 l = some (.lst vs) → All2 (PrAt H9) vs own →
        ∃ W : Nat → Nat → L2.St → Hp → Prop, (∃ m, W 0 m [some (.ref p), some vsec, some vown, some (.ref q), none, none] H9) ∧ ∀ i m σ H, W i m σ H →
          ((Itl K l).stop i H ∧ tRet (tVar 3) { nx := fun _ H' => Q .non H', rt := Q } σ H) ∨ ((Itl K l).go i H ∧ ∃ N : L2.St → Hp → Prop, (∀ σ' H', N σ' H' → ∃ m', m' < m ∧ W (i + 1) m' σ' H') ∧ ∀ x H', (Itl K l).yld i H x H' →
            (gTup K 2 (gCons (gName 4) (gCons (gName 5) gNil))) x σ H' fun σ2 H2 => (tDrop (tCall spFirst [] E0 (tCons (tFld K (tVar 3) "names") (tCons (tVar 4) (tCons (tVar 5) tNil))))) { nx := N, rt := Q, ct := N, bk := tRet (tVar 3) { nx := fun _ H' => Q .non H', rt := Q } } σ2 H2) := by
      intro l vs H9 s9 h9 al
      have y1 := s9 _ _ g1
      refine for_list (K := K) (a := l) (xs := vs) (D := { nx := tRet (tVar 3) { nx := fun _ H' => Q .non H', rt := Q }, rt := Q }) (fun i σ H' => ∃ u1 u2, σ = [some (.ref p), some vsec, some vown, some (.ref q), u1, u2] ∧ But d1 H9 H' ∧ DiK H' d1 (fks sv.names (own.take i)) (n + i))
        ⟨none, none, rfl, But.of_same (Same.refl _), ⟨ka, y1, la, va⟩⟩ (fun i σ H' _ ⟨_, _, _, b', _⟩ => SqL.of (b' _ _ (ne_lst y1 h9 (fun _ q => by cases q)).symm h9)) ?_ ?_
      · rintro i x σ H' hi ⟨u1, u2, rfl, b', hd⟩
        obtain ⟨o, ho, t, rfl, htup⟩ := al.get hi
        have t' := tm_dK b' y1
        have hi2 := (List.getElem?_eq_some_iff.mp ho).1
        refine ⟨t, _, rfl, sq_tup (t' _ _ htup), rfl, _, _, rfl, _, _, rfl, rfl, ?_⟩
        have hq' := b' _ _ (fun e => z1 e.symm) (s9 _ _ h8)
        refine ⟨_, rfl, q, cSc, dx, _, _, rfl, hq', T.cl_Scope, T.n1, scF_n _ _ _ _, _, rfl, _, rfl, d1, o.1, o.2, _, _, rfl, hd, by omega, fun H10 b10 h10 => ?_⟩
        refine ⟨_, _, rfl, b'.trans b10, ?_⟩
        rw [take_snoc ho, fks_app]
        exact h10
      · rintro σ H' ⟨u1, u2, rfl, b', hd⟩
        have st : Same H H' := same_but (s8.trans s9) b' f1
        have hlen := al.len
        rw [List.take_of_length_le (by omega)] at hd
        refine ⟨_, rfl, k q dx d1 d2 d3 H' st (b' _ _ (fun e => z1 e.symm) (s9 _ _ h8)) (hd.le (by omega)) ⟨kb, b' _ _ z12.symm (s9 _ _ g2), by omega, vb⟩ ⟨kc, b' _ _ z13.symm (s9 _ _ g3), by omega, vc⟩ f1 f2 f3⟩
    rcases hw with ⟨rfl, _, rfl⟩ | ⟨l, s0, rfl, ⟨vs, hl, al⟩, _, _⟩
    · refine ⟨_, rfl, false, rfl, it_n rfl ?_⟩
      exact ⟨Nat.zero_le _, fun l H9 _ s9 h9 => ⟨l, rfl, ⟨_, SqL.of h9⟩, loop l [] H9 s9 h9 trivial⟩⟩
    · have hl8 := s8 _ _ hl
      have al8 : All2 (PrAt H8) vs own := al.imp fun _ _ q => q.tm (tm_same s8)
      refine ⟨_, rfl, !vs.isEmpty, .inl ⟨vs, SqL.of hl8, rfl⟩, ?_⟩
      cases vs with
      | nil =>
        refine it_n rfl ?_
        refine ⟨Nat.zero_le _, fun l9 H9 _ s9 h9 => ⟨l9, rfl, ⟨_, SqL.of h9⟩, loop l9 [] H9 s9 h9 ?_⟩⟩
        cases own with
        | nil => trivial
        | cons _ _ => exact al.elim
      | cons u us => exact it_y rfl ⟨l, rfl, ⟨_, SqL.of hl8⟩, loop l (u :: us) H8 (Same.refl _) hl8 al8⟩
  -- scope.has_row
  rcases id hw with ⟨rfl, rfl, _⟩ | ⟨l, s0, rfl, _, ⟨t, x0, b0, vs0, rfl, ht, _⟩, rfl⟩
  · refine ⟨_, rfl, _, rfl, it_n rfl ?_⟩
    refine ⟨_, rfl, q, cSc, dx, _, rfl, h7, T.cl_Scope, T.n4, scF_len, fun H8 b8 h8 => tail H8 b8 (by rw [h8, scF_p4])⟩
  · refine ⟨_, rfl, _, rfl, it_y rfl ?_⟩
    refine ⟨_, rfl, t, _, 2, _, rfl, rfl, sq_tup (s7 _ _ ht), at2, _, _, rfl, rfl, ?_⟩
    refine ⟨_, rfl, q, cSc, dx, _, rfl, h7, T.cl_Scope, T.n4, scF_len, fun H8 b8 h8 => tail H8 b8 (by rw [h8, scF_p4])⟩
end
end FF
/-! Survey.leave and walk. -/
namespace FF
open PySem L2
theorem DiS.put {H' : Hp} {d : Addr} {g : Str → Bool} {n : Nat} {kvs : List (Key × V)} {x : Str} (hl : kvs.length ≤ n) (hv : ∀ y : Str, valV kvs (.inr y) = if g y = true then some (V.bl true) else none)
    (h : H' d = some (.dK (putK kvs (.inr x) (.bl true)))) : DiS H' d (fun y => decide (y = x) || g y) (n + 1) := by
  refine ⟨_, h, Nat.le_trans (length_putK _ _ _) (Nat.succ_le_succ hl), fun y => ?_⟩
  rw [valV_put]
  by_cases e : y = x
  · subst e
    simp
  · rw [if_neg fun q => e (Sum.inr.inj q)]
    show _ = if (decide (y = x) || g y) = true then some (V.bl true) else none
    rw [decide_eq_false e]
    exact hv y
/-- all but lists and what stands at a, b, c is kept -/
def Rk (M : List Addr) (H H' : Hp) : Prop := ∀ x o, x ∉ M → (∀ ys, o ≠ .lst ys) → H x = some o → H' x = some o
theorem Rk.trans {M : List Addr} {H H1 H2 : Hp} (a : Rk M H H1) (b : Rk M H1 H2) : Rk M H H2 := fun x o n l h => b x o n l (a x o n l h)
theorem rk_same {M : List Addr} {H H' : Hp} (s : Same H H') : Rk M H H' := fun x o _ _ h => s x o h
theorem rk_lst {M : List Addr} {H H' : Hp} {l : Addr} {ys : List V} (b : But l H H') (hl : H l = some (.lst ys)) : Rk M H H' := fun x o _ n h => b x o (ne_lst h hl n) h
theorem rk_but3 {a b c : Addr} {H H' : Hp} (k : But3 a b c H H') : Rk [a, b, c] H H' := fun x o n _ h => by
  simp only [List.mem_cons, List.not_mem_nil, or_false, not_or] at n
  exact k x o n.1 n.2.1 n.2.2 h
/-- a scope whose dicts are none of M -/
def ScAv (M : List Addr) (C : Addr) (H : Hp) (q : Addr) (s : Sc) : Prop := q ∉ M ∧ ∃ dx n o m, H q = some (.ins C dx (scF n o m s.row)) ∧ DiK H n s.names 100 ∧ DiK H o s.over 100 ∧ DiS H m s.secs 100 ∧ n ∉ M ∧ o ∉ M ∧ m ∉ M
theorem ScAv.at {M : List Addr} {C q : Addr} {H : Hp} {s : Sc} (h : ScAv M C H q s) : ScAt C H q s := by
  obtain ⟨_, dx, n, o, m, h1, h2, h3, h4, _⟩ := h
  exact ⟨dx, n, o, m, h1, h2, h3, h4⟩
theorem ScAv.rk {M : List Addr} {C q : Addr} {H H' : Hp} (r : Rk M H H') {s : Sc} (h : ScAv M C H q s) : ScAv M C H' q s := by
  obtain ⟨n0, dx, n, o, m, h1, ⟨k2, h2, e2⟩, ⟨k3, h3, e3⟩, ⟨k4, h4, e4⟩, n1, n2, n3⟩ := h
  exact ⟨n0, dx, n, o, m, r _ _ n0 (fun _ q => by cases q) h1, ⟨k2, r _ _ n1 (fun _ q => by cases q) h2, e2⟩, ⟨k3, r _ _ n2 (fun _ q => by cases q) h3, e3⟩, ⟨k4, r _ _ n3 (fun _ q => by cases q) h4, e4⟩, n1, n2, n3⟩
def PlAt (M : List Addr) (C : Addr) (H : Hp) (v : V) (pl : Pl) : Prop := ∃ t x y q, v = .ref t ∧ H t = some (.tup [x, y, .ref q]) ∧ (match pl.1 with | none => x = .non | some s => SctAt H x s) ∧ (match pl.2.1 with | none => y = .non | some f => FldAt H y f) ∧ ScAv M C H q pl.2.2
theorem PlAt.rk {M : List Addr} {C : Addr} {H H' : Hp} (r : Rk M H H') (t : Tm H H') {v : V} {pl : Pl} (h : PlAt M C H v pl) : PlAt M C H' v pl := by
  obtain ⟨a, x, y, q, e, h1, h2, h3, h4⟩ := h
  obtain ⟨s, f, sc⟩ := pl
  refine ⟨a, x, y, q, e, t _ _ h1, ?_, ?_, h4.rk r⟩
  · cases s with
    | none => exact h2
    | some s => exact SctAt.tm t h2
  · cases f with
    | none => exact h3
    | some f => exact FldAt.tm t h3
def secsPl (sv : Sv) : List Sct → List Pl
  | [] => []
  | s :: ss => secPl sv s ++ secsPl (svAfter sv s) ss
theorem places_eq : ∀ (F : List Sct) (sv : Sv), placesM sv F = secsPl sv F ++ [(none, none, scopeM (svFold sv F) false [])]
  | [], sv => rfl
  | s :: F, sv => by
    show secPl sv s ++ placesM (svAfter sv s) F = _
    rw [places_eq F]
    simp only [secsPl, List.append_assoc]
    rfl
theorem secsPl_app : ∀ (A B : List Sct) (sv : Sv), secsPl sv (A ++ B) = secsPl sv A ++ secsPl (svFold sv A) B
  | [], B, sv => rfl
  | a :: A, B, sv => by
    show secPl sv a ++ secsPl (svAfter sv a) (A ++ B) = _
    rw [secsPl_app A B]
    simp only [secsPl, List.append_assoc]
    rfl
theorem fldsM_len (sv : Sv) (row : Bool) : ∀ (fs : List Fld) (own : List (Str × Option Kd)), (fldsM sv row own fs).length = fs.length
  | [], _ => rfl
  | f :: fs, own => congrArg (· + 1) (fldsM_len sv row fs _)
theorem ownsM_len (sv : Sv) (row : Bool) (fs : List Fld) (own : List (Str × Option Kd)) : (ownsM sv row own fs).length = own.length + fs.length := by
  have h := congrArg List.length (owns_names sv row fs own)
  simpa using h
/-- the size of a form: sections and fields -/
def sizeF (F : List Sct) : Nat := (F.map fun s => s.fields.length + 1).sum
theorem sizeF_app (A B : List Sct) : sizeF (A ++ B) = sizeF A + sizeF B := by simp [sizeF]
theorem sizeF_take {F : List Sct} {i : Nat} {s : Sct} (h : F[i]? = some s) : sizeF (F.take i) + (s.fields.length + 1) ≤ sizeF F := by
  have e : F = F.take (i + 1) ++ F.drop (i + 1) := (List.take_append_drop _ _).symm
  have e2 := sizeF_app (F.take (i + 1)) (F.drop (i + 1))
  rw [← e, take_snoc h, sizeF_app] at e2
  have : sizeF [s] = s.fields.length + 1 := by simp [sizeF]
  omega
theorem secPl_len (sv : Sv) (s : Sct) : (secPl sv s).length = s.fields.length + 1 := by simp [secPl, fldsM_len]
theorem secsPl_len : ∀ (F : List Sct) (sv : Sv), (secsPl sv F).length = sizeF F
  | [], _ => rfl
  | s :: F, sv => by
    show (secPl sv s ++ secsPl (svAfter sv s) F).length = _
    rw [List.length_append, secPl_len, secsPl_len F]
    simp [sizeF]
def FHt (n : Nat) (F : List Sct) : Prop := ∀ s ∈ F, (∀ e, s.cond = some e → e.ht < n) ∧ ∀ f ∈ s.fields, ∀ e ∈ exprsM f, e.ht < n
def spWalk (C : Addr) (n : Nat) : Sp := fun vs H Q _ => ∃ (F : List Sct) (v : V), vs = [v] ∧ FrmAt H v F ∧ FHt n F ∧ sizeF F ≤ 50 ∧
  ∀ l xs H', Same H H' → H l = none → H' l = some (.lst xs) → All2 (PlAt [] C H') xs (placesM sv0 F) → Q (.ref l) H'
section
variable {P : Program} {w : World} {K : PySem.W.Frag} {mg : Str → Option Value} {base : Heap} {cSc cSv aW aP aN aO aA : Addr}
abbrev s_Survey_leave : Stmt := inClass (top 16) 2
theorem sc_Survey_leave : FnScope ["self", "section", "own", "name", "kind"] ["self", "section", "own"] (defScope s_Survey_leave) := ⟨rfl, rfl, rfl, by decide +kernel, rfl, by decide +kernel, by decide +kernel⟩
theorem ok_sv_leave {f : Addr} {fd : FuncData} (T : Txt K mg w cSc cSv aW aP aN aO aA) (F : Fun K "leave" "Survey.leave" s_Survey_leave f fd)
    (G_first_known : Has P w K mg base "first_known" 1 ["known", "name", "kind"] spFirst) : FnOk P w K mg base CX0 2 f fd ["self", "section", "own"] (spLeave cSv) := by
  refine F.ok sc_Survey_leave (fun vs H Q E h => ?_) (fun cdv A outer s H vs Q E hr h => ?_)
  · obtain ⟨p, a, b, c, sv, n, u, v, row, own, rfl, _⟩ := h
    rfl
  obtain ⟨p, a, b, c, sv, n, vsec, l, sec, own, rfl, hs, hn, ⟨vs, hl, al⟩, hsec, k⟩ := h
  have hu := hu_of hr
  refine ⟨_, (pss_cons (ps_for PassesOwn.never rfl (pi_list (pv 2)) (pg_tup rfl (pgs_cons (pg_name (i := 3) sc_Survey_leave.nd rfl (Or.inl rfl) (hf := Or.inl rfl)) (pgs_cons (pg_name (i := 4) sc_Survey_leave.nd rfl (Or.inl rfl) (hf := Or.inl rfl)) pgs_nil)))
        (pss_one (ps_expr (pe_callH G_first_known (hr.mono (by omega)) (by rfl) (pa_cons (pe_ifExp (pt_cmpR op_gt (pe_ix (r := rIxT K) ix_tup (pv 1) pe_int (fun _ _ => rfl)) pe_int (nomark _)) (pe_fld (pv 0) rfl) (pe_fld (pv 0) rfl)) (pa_cons (pv 3) (pa_cons (pv 4) pa_nil)))))))
      (pss_one (ps_if (pt_cmpR op_gt (pe_ix (r := rIxT K) ix_tup (pv 1) pe_int (fun _ _ => rfl)) pe_int (nomark _))
        (pss_one (ps_dputN hu (pe_fld (pv 0) rfl) (pe_ix (r := rIxT K) ix_tup (pv 1) pe_int (fun _ _ => rfl)) pe_bl rfl))
        pss_nil))), ?_⟩
  obtain ⟨⟨dv, hp⟩, ⟨ka, ha, la, va⟩, ⟨kb, hb, lb, vb⟩, ⟨kc, hc, lc, vc⟩, nab, nac, nbc⟩ := id hs
  obtain ⟨t, x0, b0, vs0, rfl, ht, _⟩ := hsec
  have hlen := al.len
  -- which of the dicts: d, of g
  have loop : ∀ (d : Addr) (g : Str → Option Kd) (kd : List (Key × V)), H d = some (.dK kd) → kd.length ≤ n → (∀ y : Str, valV kd (.inr y) = (g y).map fun k => V.str k.z) →
      (∀ (σ : L2.St) (H' : Hp) (Q' : VK), σ[0]? = some (some (.ref p)) → σ[1]? = some (some (.ref t)) → H' p = some (.ins cSv dv (svF a b c)) → H' t = some (.tup [.str sec.name, x0, .int sec.most, .ref b0]) → Q' (.ref d) H' →
        tIf (tTest (tOp (rI0 fun i j => .bl (decide (j < i))) (tOp (rIxT K) (tVar 1) (tC (.int 2))) (tC (.int 0)))) (tFld K (tVar 0) "over") (tFld K (tVar 0) "names") σ H' Q') →
      (∀ H' u1 u2, But d H H' → DiK H' d (fks g own) (n + own.length) → tIfS (tTest (tOp (rI0 fun i j => .bl (decide (j < i))) (tOp (rIxT K) (tVar 1) (tC (.int 2))) (tC (.int 0)))) (uDPut (tFld K (tVar 0) "sections") (tOp (rIxT K) (tVar 1) (tC (.int 0))) (tC (.bl true))) tNext
        { nx := fun _ H' => Q .non H', rt := Q } [some (.ref p), some (.ref t), some (.ref l), u1, u2] H') →
      tSeq (tFor (iList K (tVar 2)) (gTup K 2 (gCons (gName 3) (gCons (gName 4) gNil))) (tDrop (tCall spFirst [] E0 (tCons (tIf (tTest (tOp (rI0 fun i j => .bl (decide (j < i))) (tOp (rIxT K) (tVar 1) (tC (.int 2))) (tC (.int 0)))) (tFld K (tVar 0) "over") (tFld K (tVar 0) "names")) (tCons (tVar 3) (tCons (tVar 4) tNil))))))
        (tIfS (tTest (tOp (rI0 fun i j => .bl (decide (j < i))) (tOp (rIxT K) (tVar 1) (tC (.int 2))) (tC (.int 0)))) (uDPut (tFld K (tVar 0) "sections") (tOp (rIxT K) (tVar 1) (tC (.int 0))) (tC (.bl true))) tNext)
        { nx := fun _ H' => Q .non H', rt := Q } [some (.ref p), some (.ref t), some (.ref l), none, none] H := by
    intro d g kd hd ld vd sel fin
    have tm : ∀ {H' : Hp}, But d H H' → Tm H H' := fun b' => tm_dK b' hd
    refine ⟨_, rfl, l, rfl, ⟨_, SqL.of hl⟩, ?_⟩
    refine for_list (K := K) (a := l) (xs := vs) (fun i σ H' => ∃ u1 u2, σ = [some (.ref p), some (.ref t), some (.ref l), u1, u2] ∧ But d H H' ∧ DiK H' d (fks g (own.take i)) (n + i))
      ⟨none, none, rfl, But.of_same (Same.refl _), ⟨kd, hd, ld, vd⟩⟩ (fun i σ H' _ ⟨_, _, _, b', _⟩ => SqL.of (b' _ _ (ne_lst hd hl (fun _ q => by cases q)).symm hl)) ?_ ?_
    · rintro i x σ H' hi ⟨u1, u2, rfl, b', hdi⟩
      obtain ⟨o, ho, r, rfl, htup⟩ := al.get hi
      have hi2 := (List.getElem?_eq_some_iff.mp ho).1
      refine ⟨r, _, rfl, sq_tup (tm b' _ _ htup), rfl, _, _, rfl, _, _, rfl, rfl, ?_⟩
      refine sel _ H' _ rfl rfl (b' _ _ (ne_of hp hd (by intro q; cases q)) hp) (tm b' _ _ ht) ?_
      refine ⟨_, rfl, _, rfl, d, o.1, o.2, _, _, rfl, hdi, by omega, fun H10 b10 h10 => ?_⟩
      refine ⟨_, _, rfl, b'.trans b10, ?_⟩
      rw [take_snoc ho, fks_app]
      exact h10
    · rintro σ H' ⟨u1, u2, rfl, b', hdi⟩
      rw [List.take_of_length_le (by omega), hlen] at hdi
      exact fin H' u1 u2 b' hdi
  by_cases hrep : sec.rep = true
  · have hpos : decide ((0 : Int) < sec.most) = true := hrep
    refine loop b sv.over kb hb lb vb (fun σ H' Q' e0 e1 hp' ht' q => ?_) (fun H' u1 u2 b' hd => ?_)
    · refine ⟨_, e1, t, _, 2, _, rfl, rfl, sq_tup ht', at2, _, _, rfl, rfl, _, rfl, it_y hpos ?_⟩
      exact ⟨_, e0, p, cSv, dv, _, _, rfl, hp', T.cl_Survey, T.v2, svF_o _ _ _, q⟩
    · have hp' := b' _ _ (ne_of hp hb (by intro q; cases q)) hp
      have ht' := tm_dK b' hb _ _ ht
      refine ⟨_, rfl, t, _, 2, _, rfl, rfl, sq_tup ht', at2, _, _, rfl, rfl, _, rfl, it_y hpos ?_⟩
      refine ⟨_, rfl, p, cSv, dv, _, _, rfl, hp', T.cl_Survey, T.v3, svF_m _ _ _, _, rfl, t, _, 0, _, rfl, rfl, sq_tup ht', at0, c, kc, .inr sec.name, rfl, rfl, b' _ _ nbc.symm hc, lt_line (by omega), fun H2 b2 h2 => ?_⟩
      refine k H2 (fun x o n1 n2 n3 h => b2 x o n3 (b' x o n2 h)) ?_
      unfold leaveM
      rw [if_pos hrep]
      refine ⟨⟨dv, b2 _ _ (ne_of hp hc (by intro q; cases q)) hp'⟩, ⟨ka, b2 _ _ nac (b' _ _ nab ha), by omega, va⟩, (hd.but b2 nbc).le (by omega), (DiS.put lc vc h2).le (by omega), nab, nac, nbc⟩
  · have hneg : decide ((0 : Int) < sec.most) = false := by
      cases hc2 : decide ((0 : Int) < sec.most) with
      | false => rfl
      | true => exact absurd hc2 hrep
    refine loop a sv.names ka ha la va (fun σ H' Q' e0 e1 hp' ht' q => ?_) (fun H' u1 u2 b' hd => ?_)
    · refine ⟨_, e1, t, _, 2, _, rfl, rfl, sq_tup ht', at2, _, _, rfl, rfl, _, rfl, it_n hneg ?_⟩
      exact ⟨_, e0, p, cSv, dv, _, _, rfl, hp', T.cl_Survey, T.v1, svF_n _ _ _, q⟩
    · have hp' := b' _ _ (ne_of hp ha (by intro q; cases q)) hp
      have ht' := tm_dK b' ha _ _ ht
      refine ⟨_, rfl, t, _, 2, _, rfl, rfl, sq_tup ht', at2, _, _, rfl, rfl, _, rfl, it_n hneg ?_⟩
      refine k H' (fun x o n1 n2 n3 h => b' x o n1 h) ?_
      unfold leaveM
      rw [if_neg hrep]
      refine ⟨⟨dv, hp'⟩, hd.le (by omega), ⟨kb, b' _ _ nab.symm hb, by omega, vb⟩, ⟨kc, b' _ _ nac.symm hc, by omega, vc⟩, nab, nac, nbc⟩
abbrev s_walk : Stmt := top 17
theorem sc_walk : FnScope ["form", "survey", "found", "section", "own", "field", "scope"] ["form"] (defScope s_walk) := ⟨rfl, rfl, rfl, by decide +kernel, rfl, by decide +kernel, by decide +kernel⟩
theorem ok_walk {n : Nat} {f : Addr} {fd : FuncData} (T : Txt K mg w cSc cSv aW aP aN aO aA) (F : Fun K "walk" "walk" s_walk f fd) (M_Survey : HasC P w K mg base cSv "Survey" 1 ["self"] (spSvInit cSv))
    (G_Survey_scope : HasM P w K mg base cSv "scope" 3 ["self", "section", "own"] (spSvScope cSv cSc)) (G_Survey_leave : HasM P w K mg base cSv "leave" 2 ["self", "section", "own"] (spLeave cSv))
    (G_field_kind : Has P w K mg base "field_kind" (2 * n + 1) ["field", "scope"] (spFieldKind cSc n)) : FnOk P w K mg base CX0 (2 * n + 4) f fd ["form"] (spWalk cSc n) := by
  refine F.ok sc_walk (fun vs H Q E h => ?_) (fun cdv A outer s H vs Q E hr h => ?_)
  · obtain ⟨F, v, rfl, _⟩ := h
    rfl
  obtain ⟨F, v, rfl, ⟨fa, fvs, rfl, hfa, fal⟩, hht, hsz, k⟩ := h
  refine ⟨_, (pss_cons (ps_set (i := 1) sc_walk.nd rfl (Or.inl rfl) (pe_makeH M_Survey (hr.mono (by omega)) (by rfl)))
      (pss_cons (ps_set (i := 2) sc_walk.nd rfl (Or.inl rfl) (pe_lstN pa_nil))
      (pss_cons (ps_for PassesOwn.never rfl (pi_tup (pv 0)) (pg_name (i := 3) sc_walk.nd rfl (Or.inl rfl) (hf := Or.inl rfl))
        (pss_cons (ps_expr (pe_bm PySem.F.plainAttrs_list PySem.F.slot_list_append PySem.F.type_list_append mt_appendN (pv 2) (pa_cons (pe_tupN (pa_cons (pv 3) (pa_cons pe_non (pa_cons (pe_methH (pv 1) T.cl_Survey G_Survey_scope (hr.mono (by omega)) (pa_cons (pv 3) (pa_cons pe_non pa_nil))) pa_nil)))) pa_nil)))
        (pss_cons (ps_set (i := 4) sc_walk.nd rfl (Or.inl rfl) (pe_lstN pa_nil))
        (pss_cons (ps_for PassesOwn.never rfl (pi_tup (pe_ix (r := rIxT K) ix_tup (pv 3) pe_int (fun _ _ => rfl))) (pg_name (i := 5) sc_walk.nd rfl (Or.inl rfl) (hf := Or.inl rfl))
          (pss_cons (ps_set (i := 6) sc_walk.nd rfl (Or.inl rfl) (pe_methH (pv 1) T.cl_Survey G_Survey_scope (hr.mono (by omega)) (pa_cons (pv 3) (pa_cons (pv 4) pa_nil))))
          (pss_cons (ps_expr (pe_bm PySem.F.plainAttrs_list PySem.F.slot_list_append PySem.F.type_list_append mt_appendN (pv 2) (pa_cons (pe_tupN (pa_cons (pv 3) (pa_cons (pv 5) (pa_cons (pv 6) pa_nil)))) pa_nil)))
          (pss_one (ps_expr (pe_bm PySem.F.plainAttrs_list PySem.F.slot_list_append PySem.F.type_list_append mt_appendN (pv 4) (pa_cons (pe_tupN (pa_cons (pe_ix (r := rIxT K) ix_tup (pv 5) pe_int (fun _ _ => rfl)) (pa_cons (pe_callH G_field_kind (hr.mono (by omega)) (by rfl) (pa_cons (pv 5) (pa_cons (pv 6) pa_nil))) pa_nil))) pa_nil)))))))
        (pss_one (ps_expr (pe_methH (pv 1) T.cl_Survey G_Survey_leave (hr.mono (by omega)) (pa_cons (pv 3) (pa_cons (pv 4) pa_nil)))))))))
      (pss_cons (ps_expr (pe_bm PySem.F.plainAttrs_list PySem.F.slot_list_append PySem.F.type_list_append mt_appendN (pv 2) (pa_cons (pe_tupN (pa_cons pe_non (pa_cons pe_non (pa_cons (pe_methH (pv 1) T.cl_Survey G_Survey_scope (hr.mono (by omega)) (pa_cons pe_non (pa_cons pe_non pa_nil))) pa_nil)))) pa_nil)))
      (pss_one (ps_ret (pv 2))))))), ?_⟩
  -- survey = Survey(); found = []
  intro p dx np ndx nex
  refine ⟨p, dx, rfl, upd_same, fun a b c H1 b1 hs1 fa1 fb1 fc1 => ⟨rfl, ?_⟩⟩
  have w0 : Same H (upd (upd H dx (.own p)) p (.ins cSv dx [])) := fun y o e => by rw [upd_ne (ne_of_none e np), upd_ne (ne_of_none e ndx)]; exact e
  have s1 : Same H H1 := fun y o e => b1 y o (ne_of_none e np) (w0 y o e)
  have fa1 : H a = none := w0.free fa1
  have fb1 : H b = none := w0.free fb1
  have fc1 : H c = none := w0.free fc1
  refine ⟨Nat.zero_le _, fun l H2 nl s2 h2 => ?_⟩
  have fl1 : H l = none := s1.free nl
  have s12 := s1.trans s2
  have scno : ∀ (m : Str), m = "scope" ∨ m = "leave" → (svF a b c).lookup m = none := fun m hm => by
    rcases hm with rfl | rfl
    · exact svF_no _ _ _ (by decide +kernel) (by decide +kernel) (by decide +kernel)
    · exact svF_no _ _ _ (by decide +kernel) (by decide +kernel) (by decide +kernel)
  have hlenF := fal.len
  -- the sections
  refine ⟨_, rfl, fa, rfl, ⟨_, sq_tup (s12 _ _ hfa)⟩, ?_⟩
  refine for_tup (K := K) (a := fa) (xs := fvs) (fun i σ H' => ∃ u3 u4 u5 u6, σ = [some (.ref fa), some (.ref p), some (.ref l), u3, u4, u5, u6] ∧ Same H H' ∧ SvAt cSv H' p a b c (svFold sv0 (F.take i)) (sizeF (F.take i)) ∧
      ∃ xs, H' l = some (.lst xs) ∧ All2 (PlAt [a, b, c] cSc H') xs (secsPl sv0 (F.take i)))
    ⟨none, none, none, none, rfl, s12, hs1.same s2, [], h2, trivial⟩ (fun i σ H' _ ⟨_, _, _, _, _, s', _⟩ => sq_tup (s' _ _ hfa)) ?_ ?_
  · rintro i x σ H3 hi ⟨u3, u4, u5, u6, rfl, s3, hsv, xs, hl3, alx⟩
    obtain ⟨sec, hsec, hx⟩ := fal.get hi
    have hx3 := hx.tm (tm_same s3)
    have hsz' := sizeF_take hsec
    have hxlen := alx.len
    rw [secsPl_len] at hxlen
    obtain ⟨⟨dv, hp3⟩, _⟩ := id hsv
    -- found.append((section, None, survey.scope(section, None)))
    refine ⟨_, rfl, .inl ⟨rfl, _, SqL.of hl3⟩, _, rfl, _, rfl, p, dv, _, rfl, hp3, scno _ (.inl rfl), _, rfl, p, a, b, c, _, _, x, .non, false, [], rfl, hsv, by simp; omega, .inl ⟨rfl, rfl, rfl⟩, fun q dq n1 o1 m1 H4 s4 hq hn1 ho1 hm1 en1 eo1 em1 => ?_⟩
    obtain ⟨_, ⟨_, za, _⟩, ⟨_, zb, _⟩, ⟨_, zc, _⟩, nab, nac, nbc⟩ := id hsv
    have av : ∀ y, H3 y = none → y ∉ [a, b, c] := fun y e m => by
      simp only [List.mem_cons, List.not_mem_nil, or_false] at m
      rcases m with rfl | rfl | rfl
      · rw [za] at e; cases e
      · rw [zb] at e; cases e
      · rw [zc] at e; cases e
    have qav : ∀ {H' : Hp}, Same H3 H' → ∀ {q C dx : Addr} {fs : List (Str × V)}, H' q = some (.ins C dx fs) → q ∉ [a, b, c] := by
      intro H' s q C dx fs e m
      simp only [List.mem_cons, List.not_mem_nil, or_false] at m
      rcases m with rfl | rfl | rfl
      · rw [s _ _ za] at e; cases e
      · rw [s _ _ zb] at e; cases e
      · rw [s _ _ zc] at e; cases e
    refine ⟨le_line (by simp), fun t H5 _ s5 h5 => ?_⟩
    have s35 := s4.trans s5
    refine ⟨l, _, _, rfl, rfl, s35 _ _ hl3, lt_line (by omega), fun H6 b6 h6 => ?_⟩
    have hl5 := s35 _ _ hl3
    have s6 : Same H H6 := same_but (s3.trans s35) b6 fl1
    have t36 : Tm H3 H6 := (tm_same s35).trans (tm_lst b6 hl5)
    have r36 : Rk [a, b, c] H3 H6 := (rk_same s35).trans (rk_lst b6 hl5)
    have sv6 := (hsv.same s35).lst b6 hl5
    have sc4 : ScAv [a, b, c] cSc H4 q (scopeM (svFold sv0 (F.take i)) false []) := ⟨qav s4 hq, dq, n1, o1, m1, hq, hn1, ho1, hm1, av _ en1, av _ eo1, av _ em1⟩
    have pl0 : PlAt [a, b, c] cSc H6 (.ref t) (some sec, none, scopeM (svFold sv0 (F.take i)) false []) :=
      ⟨t, x, .non, q, rfl, tm_lst b6 hl5 _ _ h5, hx.tm (tm_same s6), rfl, (sc4.rk (rk_same s5)).rk (rk_lst b6 hl5)⟩
    have al6 : All2 (PlAt [a, b, c] cSc H6) (xs ++ [.ref t]) (secsPl sv0 (F.take i) ++ [(some sec, none, scopeM (svFold sv0 (F.take i)) false [])]) := All2.snoc (alx.imp fun _ _ z => z.rk r36 t36) pl0
    -- own = []
    refine ⟨Nat.zero_le _, fun ol H7 nol s7 h7 => ?_⟩
    have s67 := s6.trans s7
    have fol : H ol = none := s6.free nol
    have hl7 := s7 _ _ h6
    have nlo : l ≠ ol := fun e => by rw [e, nol] at h6; cases h6
    obtain ⟨ta, cx, fb, fvs2, rfl, hta, hcx, hfb, fal2⟩ := id hx
    have hlen2 := fal2.len
    -- the fields
    refine ⟨_, rfl, ta, _, 3, _, rfl, rfl, sq_tup (s67 _ _ hta), at3, fb, rfl, ⟨_, sq_tup (s67 _ _ hfb)⟩, ?_⟩
    refine for_tup (K := K) (a := fb) (xs := fvs2) (fun j σ H' => ∃ u5 u6, σ = [some (.ref fa), some (.ref p), some (.ref l), some (.ref ta), some (.ref ol), u5, u6] ∧ Same H H' ∧ SvAt cSv H' p a b c (svFold sv0 (F.take i)) (sizeF (F.take i)) ∧
        OwAt H' ol (ownsM (svFold sv0 (F.take i)) sec.rep [] (sec.fields.take j)) ∧
        ∃ xs, H' l = some (.lst xs) ∧ All2 (PlAt [a, b, c] cSc H') xs (secsPl sv0 (F.take i) ++ ((some sec, none, scopeM (svFold sv0 (F.take i)) false []) :: (fldsM (svFold sv0 (F.take i)) sec.rep [] (sec.fields.take j)).map fun p => (some sec, some p.1, p.2))))
      ⟨u5, u6, rfl, s67, sv6.same s7, ⟨[], h7, trivial⟩, _, hl7, al6.imp fun _ _ z => z.rk (rk_same s7) (tm_same s7)⟩ (fun j σ H' _ ⟨_, _, _, s', _⟩ => sq_tup (s' _ _ hfb)) ?_ ?_
    · rintro j y σ H8 hj ⟨u5, u6, rfl, s8, hsv8, how8, ys, hl8, aly⟩
      obtain ⟨fld, hfld, hy⟩ := fal2.get hj
      have hj2 := (List.getElem?_eq_some_iff.mp hfld).1
      have hy8 := hy.tm (tm_same s8)
      have hylen := aly.len
      simp only [List.length_append, List.length_cons, List.length_map, secsPl_len, fldsM_len, List.length_take] at hylen
      obtain ⟨⟨dv8, hp8⟩, ⟨_, za8, _⟩, ⟨_, zb8, _⟩, ⟨_, zc8, _⟩, _⟩ := id hsv8
      obtain ⟨ovs, hol8, oal⟩ := id how8
      have olen := oal.len
      rw [ownsM_len, List.length_take, List.length_nil] at olen
      have av8 : ∀ y, H8 y = none → y ∉ [a, b, c] := fun y e m => by
        simp only [List.mem_cons, List.not_mem_nil, or_false] at m
        rcases m with rfl | rfl | rfl
        · rw [za8] at e; cases e
        · rw [zb8] at e; cases e
        · rw [zc8] at e; cases e
      have qav8 : ∀ {H' : Hp}, Same H8 H' → ∀ {q C dx : Addr} {fs : List (Str × V)}, H' q = some (.ins C dx fs) → q ∉ [a, b, c] := by
        intro H' s q C dx fs e m
        simp only [List.mem_cons, List.not_mem_nil, or_false] at m
        rcases m with rfl | rfl | rfl
        · rw [s _ _ za8] at e; cases e
        · rw [s _ _ zb8] at e; cases e
        · rw [s _ _ zc8] at e; cases e
      -- scope = survey.scope(section, own)
      refine ⟨_, rfl, p, dv8, _, rfl, hp8, scno _ (.inl rfl), _, rfl, _, rfl, p, a, b, c, _, _, .ref ta, .ref ol, sec.rep, _, rfl, hsv8, by rw [ownsM_len]; simp only [List.length_nil, List.length_take]; omega, .inr ⟨ol, sec, rfl, how8, hx.tm (tm_same s8), rfl⟩, fun q2 dq2 n2 o2 m2 H9 s9 hq2 hn2 ho2 hm2 en2 eo2 em2 => ?_⟩
      have sc9 : ScAv [a, b, c] cSc H9 q2 (scopeM (svFold sv0 (F.take i)) sec.rep (ownsM (svFold sv0 (F.take i)) sec.rep [] (sec.fields.take j))) := ⟨qav8 s9 hq2, dq2, n2, o2, m2, hq2, hn2, ho2, hm2, av8 _ en2, av8 _ eo2, av8 _ em2⟩
      -- found.append((section, field, scope))
      have hl9 := s9 _ _ hl8
      refine ⟨_, rfl, .inl ⟨rfl, _, SqL.of hl9⟩, _, rfl, _, rfl, _, rfl, le_line (by simp), fun t2 H10 _ s10 h10 => ?_⟩
      have hl10 := s10 _ _ hl9
      refine ⟨l, _, _, rfl, rfl, hl10, lt_line (by omega), fun H11 b11 h11 => ?_⟩
      have s11 : Same H H11 := same_but (s8.trans (s9.trans s10)) b11 fl1
      have t11 : Tm H8 H11 := (tm_same (s9.trans s10)).trans (tm_lst b11 hl10)
      have r11 : Rk [a, b, c] H8 H11 := (rk_same (s9.trans s10)).trans (rk_lst b11 hl10)
      have sc11 := (sc9.rk (rk_same s10)).rk (rk_lst b11 hl10)
      have hol11 := b11 _ _ nlo.symm ((s9.trans s10) _ _ hol8)
      -- own.append((field[1], field_kind(field, scope)))
      obtain ⟨fa2, fz, fx, fy, fr, rfl, hfa2, _, _⟩ := (hy.tm (tm_same s11)).view
      refine ⟨_, rfl, .inl ⟨rfl, _, SqL.of hol11⟩, _, rfl, fa2, _, 1, _, rfl, rfl, sq_tup hfa2, at1, _, rfl, _, rfl, fld, _, q2, _, rfl, hy.tm (tm_same s11), sc11.at, (hht sec (List.mem_of_getElem? hsec)).2 fld (List.mem_of_getElem? hfld), fun H12 s12' => ?_⟩
      refine ⟨le_line (by simp), fun t3 H13 _ s13 h13 => ?_⟩
      have s1113 := s12'.trans s13
      have hol13 := s1113 _ _ hol11
      refine ⟨ol, _, _, rfl, rfl, hol13, lt_line (by omega), fun H14 b14 h14 => ?_⟩
      have s14 : Same H H14 := same_but (s11.trans s1113) b14 fol
      have t14 : Tm H11 H14 := (tm_same s1113).trans (tm_lst b14 hol13)
      have r14 : Rk [a, b, c] H11 H14 := (rk_same s1113).trans (rk_lst b14 hol13)
      have hl14 := b14 _ _ nlo (s1113 _ _ h11)
      refine ⟨_, _, rfl, s14, ((((hsv8.same s9).same s10).lst b11 hl10).same s1113).lst b14 hol13, ?_, _, hl14, ?_⟩
      · rw [take_snoc hfld, ownsM_app]
        refine ⟨_, h14, All2.snoc (oal.imp fun _ _ z => z.tm (t11.trans t14)) ⟨t3, rfl, tm_lst b14 hol13 _ _ h13⟩⟩
      · rw [take_snoc hfld, fldsM_app, List.map_append, ← List.cons_append, ← List.append_assoc]
        refine All2.snoc (aly.imp fun _ _ z => z.rk (r11.trans r14) (t11.trans t14)) ⟨t2, _, _, q2, rfl, t14 _ _ (tm_lst b11 hl10 _ _ h10), hx.tm (tm_same s14), hy.tm (tm_same s14), sc11.rk r14⟩
    · -- survey.leave(section, own)
      rintro σ H8 ⟨u5, u6, rfl, s8, hsv8, how8, ys, hl8, aly⟩
      have et : sec.fields.take fvs2.length = sec.fields := List.take_of_length_le (by omega)
      rw [et] at how8 aly
      obtain ⟨⟨dv8, hp8⟩, ⟨_, za8, _⟩, ⟨_, zb8, _⟩, ⟨_, zc8, _⟩, _⟩ := id hsv8
      have olen : _ = 0 + _ := ownsM_len (svFold sv0 (F.take i)) sec.rep sec.fields []
      refine ⟨_, rfl, p, dv8, _, rfl, hp8, scno _ (.inr rfl), _, rfl, _, rfl, p, a, b, c, _, _, .ref ta, ol, sec, _, rfl, hsv8, by omega, how8, hx.tm (tm_same s8), fun H9 b9 hsv9 => ?_⟩
      have s9 : Same H H9 := fun y o e => b9 y o (ne_of_none e fa1) (ne_of_none e fb1) (ne_of_none e fc1) (s8 y o e)
      have t9 : Tm H8 H9 := fun y zs e => b9 y _ (fun q => by rw [q, za8] at e; cases e) (fun q => by rw [q, zb8] at e; cases e) (fun q => by rw [q, zc8] at e; cases e) e
      refine ⟨_, _, _, _, rfl, s9, ?_, ys, b9 _ _ (fun q => by rw [q, za8] at hl8; cases hl8) (fun q => by rw [q, zb8] at hl8; cases hl8) (fun q => by rw [q, zc8] at hl8; cases hl8) hl8, ?_⟩
      · rw [take_snoc hsec, sizeF_app]
        have e1 : svFold sv0 (F.take i ++ [sec]) = svAfter (svFold sv0 (F.take i)) sec := by unfold svFold; rw [List.foldl_append]; rfl
        have e2 : sizeF [sec] = sec.fields.length + 1 := by simp [sizeF]
        rw [e1, e2]
        rw [olen] at hsv9
        rw [show sizeF (F.take i) + (sec.fields.length + 1) = sizeF (F.take i) + (0 + sec.fields.length) + 1 by omega]
        exact hsv9
      · rw [take_snoc hsec, secsPl_app]
        show All2 _ ys (secsPl sv0 (F.take i) ++ (secPl (svFold sv0 (F.take i)) sec ++ []))
        rw [List.append_nil]
        exact aly.imp fun _ _ z => z.rk (rk_but3 b9) t9
  · -- found.append((None, None, survey.scope(None, None))); return found
    rintro σ H3 ⟨u3, u4, u5, u6, rfl, s3, hsv, xs, hl3, alx⟩
    have et : F.take fvs.length = F := List.take_of_length_le (by omega)
    rw [et] at hsv alx
    have hxlen := alx.len
    rw [secsPl_len] at hxlen
    obtain ⟨⟨dv, hp3⟩, _⟩ := id hsv
    refine ⟨_, rfl, .inl ⟨rfl, _, SqL.of hl3⟩, _, rfl, p, dv, _, rfl, hp3, scno _ (.inl rfl), p, a, b, c, _, _, .non, .non, false, [], rfl, hsv, by simp; omega, .inl ⟨rfl, rfl, rfl⟩, fun q dq n1 o1 m1 H4 s4 hq hn1 ho1 hm1 en1 eo1 em1 => ?_⟩
    refine ⟨le_line (by simp), fun t H5 _ s5 h5 => ?_⟩
    have s35 := s4.trans s5
    refine ⟨l, _, _, rfl, rfl, s35 _ _ hl3, lt_line (by omega), fun H6 b6 h6 => ?_⟩
    have hl5 := s35 _ _ hl3
    have s6 : Same H H6 := same_but (s3.trans s35) b6 fl1
    have weak : ∀ {v : V} {pl : Pl}, PlAt [a, b, c] cSc H3 v pl → PlAt [] cSc H3 v pl := fun ⟨t, x, y, q, e, h1, h2, h3, n0, dx, n, o, m, h4, h5, h6, h7, _⟩ => ⟨t, x, y, q, e, h1, h2, h3, List.not_mem_nil, dx, n, o, m, h4, h5, h6, h7, List.not_mem_nil, List.not_mem_nil, List.not_mem_nil⟩
    have t36 : Tm H3 H6 := (tm_same s35).trans (tm_lst b6 hl5)
    have r36 : Rk [] H3 H6 := (rk_same s35).trans (rk_lst b6 hl5)
    have sc4 : ScAv [] cSc H4 q (scopeM (svFold sv0 F) false []) := ⟨List.not_mem_nil, dq, n1, o1, m1, hq, hn1, ho1, hm1, List.not_mem_nil, List.not_mem_nil, List.not_mem_nil⟩
    refine ⟨_, rfl, k l _ H6 s6 fl1 h6 ?_⟩
    rw [places_eq]
    exact All2.snoc (alx.imp fun _ _ z => (weak z).rk r36 t36) ⟨t, .non, .non, q, rfl, tm_lst b6 hl5 _ _ h5, rfl, rfl, (sc4.rk (rk_same s5)).rk (rk_lst b6 hl5)⟩
end
end FF
/-! len(set(xs)) for a list of texts, each once. -/
namespace FF
open PySem PySem.Spec PyProof.Rows L2
section
variable {prog : Program} {w : World} {A : Around} {R : Result → Shared → Prop} {I : Addr} {fp wr : List Addr} {G : Array GenState → Array GenState → Prop} {n : Nat} {P : Nat → Value → Prop} {St : Nat → Shared → Prop}
/-- the members met so far -/
abbrev Met (prog : Program) (w : World) (S : Addr) (xs : List Str) (h : Heap) : Prop := h.SetOf (PySem.strKind prog w) S (fun k => decide (k ∈ xs)) xs.length
theorem Met.stay {S : Addr} {xs : List Str} {h h' : Heap} (m : Met prog w S xs h) (k : ∀ o, h.get? S = some o → h'.get? S = some o) : Met prog w S xs h' := by
  obtain ⟨o, es, ep, tb, ho, more⟩ := m
  exact ⟨o, es, ep, tb, k _ ho, more⟩
theorem set_turns (W : WalksS prog w A.in1 I fp wr G n P St) (S : Addr) (off : S ∉ fp) (xs : List Str) (nd : xs.Nodup) (len : xs.length = n) (few : n + 1 < scanBound)
    (val : ∀ i v, P i v → ∃ x t, xs[i]? = some x ∧ v = .str x t) : ∀ (m i : Nat) (s : Shared), i + m = n → St i s → Met prog w S (xs.take i) s.heap →
      (∀ s', Moved (S :: wr) G s s' → Met prog w S xs s'.heap → R (.ok (.ret .none)) s') → codeAny (model prog w) A (.builtin "set.update.loop" ⟨[.ref S, .ref I], []⟩) R s := by
  have offw : S ∉ wr := fun q => off (W.sub _ q)
  have more : ∀ b ∈ wr, b ∈ S :: wr := fun b q => List.mem_cons_of_mem _ q
  intro m
  induction m with
  | zero =>
    intro i s him st ms fin
    obtain rfl : i = n := him
    refine codeAny_builtin PyProof.Rows.F.entry_set_update_loop ?_
    rw [Around.under_plainId PyProof.Rows.F.plain_set_update_loop _]
    show wpAny _ A.in1 (pyNext (.ref I) >>= _) _ _ s
    refine wpAny_bind (W.done s _ _ st fun s' mv => ?_)
    show wpAny _ A.in1 (ret Value.none) _ _ s'
    rw [List.take_of_length_le (Nat.le_of_eq len)] at ms
    exact wpAny_pure (fin s' (mv.mono more) (ms.stay fun o e => mv.heap S o offw e))
  | succ m ih =>
    intro i s him st ms fin
    have lt : i < n := by omega
    refine codeAny_builtin PyProof.Rows.F.entry_set_update_loop ?_
    rw [Around.under_plainId PyProof.Rows.F.plain_set_update_loop _]
    show wpAny _ A.in1 (pyNext (.ref I) >>= _) _ _ s
    refine wpAny_bind (W.item i s _ _ lt st fun v s' hP st' mv => ?_)
    obtain ⟨x, t, hx, rfl⟩ := val i v hP
    have ms' := ms.stay fun o e => mv.heap S o offw e
    show wpAny _ A.in1 (holding [Value.str x t] (setAdd S (.str x t)) >>= _) _ _ s'
    refine wpAny_bind (wpAny_holding ?_)
    unfold setAdd
    refine wpAny_holding (wpAny_bind ((PySem.strKind prog w).pyHash (k := x) (strKind_is _ _ _ _) ?_))
    have room : (xs.take i).length + 1 < scanBound := by
      rw [List.length_take]
      omega
    refine wpAny_setAddHashed_of (knd := PySem.strKind prog w) (s := { s' with toks := s'.toks + 1 }) (strKind_is _ _ _ _) rfl ms' room fun h' sb ms2 => ?_
    have new : x ∉ xs.take i := fun q => by
      have e := nd
      rw [← List.take_append_drop i xs] at e
      have lt2 : i < xs.length := (List.getElem?_eq_some_iff.mp hx).1
      have e2 : xs.drop i = x :: xs.drop (i + 1) := by
        rw [List.drop_eq_getElem_cons lt2]
        have := (List.getElem?_eq_some_iff.mp hx).2
        rw [this]
      rw [e2] at e
      exact (List.nodup_append.mp e).2.2 _ q _ List.mem_cons_self rfl
    have ts : xs.take (i + 1) = xs.take i ++ [x] := by
      rw [List.take_add_one, hx]
      rfl
    have ms3 : Met prog w S (xs.take (i + 1)) h' := by
      refine PyProof.Rows.SetOf_congr ms2 (fun k => ?_) ?_
      · rw [ts]
        by_cases c : k = x
        · subst c; simp
        · simp [c]
      · rw [ts, List.length_append]
        simp [new]
    refine wpAny_pure ⟨plainId_quiet PyProof.Rows.F.plain_set_update_loop _, ih (i + 1) _ (by omega) (W.frame _ s' _ _ st' (Nat.le_succ _) fun b hb o e => ?_) ms3 fun s2 mv2 ms4 => ?_⟩
    · exact (sb.2 b (fun z : b = S => off (z ▸ hb))).trans e
    · refine fin s2 (Moved.trans W.gtrans ((mv.mono more).then_heap (Nat.le_succ _) fun b o hb e => ?_) mv2) ms4
      exact (sb.2 b (fun z : b = S => hb (z ▸ List.mem_cons_self))).trans e
end
section
variable {prog : Program} {w : World} {A : Around} {E : Value → Shared → Prop} {s : Shared}
/-- the empty set as set() lays it -/
abbrev mt (led : Bool) : Obj := { cls := .type "set", dict := none, data := .set #[] 0 (.fresh 0 0 led) }
set_option maxHeartbeats 3200000 in
theorem set_of_texts {l : Addr} {items : Array Value} {xs : List Str} {Q : Value → Shared → Prop} (calm : A.handled = none) (hl : s.heap.IsList l items) (hi : StrsAre items.toList xs) (nd : xs.Nodup) (few : xs.length + 1 < scanBound)
    (fin : ∀ (h' : Heap) (tk : Nat), Met prog w s.heap.objs.size xs h' → (∀ b o, s.heap.get? b = some o → h'.get? b = some o) → Q (.ref s.heap.objs.size) { s with heap := h', toks := tk }) :
    wpAny (model prog w) A (call (.type "set") [.ref l]) Q E s := by
  have len : xs.length = items.size := by rw [← StrsAre.len_eq hi, Array.length_toList]
  obtain ⟨c, tl, hmro⟩ := PySem.F.called_set.mro
  have hmade := PySem.F.called_set.made
  have hsub := PySem.F.called_set.sub
  have h1 := PySem.F.called_set.notType
  have h2 := PySem.F.called_set.canCreate
  have hct := PySem.F.typeCall_set_1 (.ref l)
  have hli := PySem.F.called_set.init.lookup
  have hsls := PySem.F.sub_list_set
  have hslf := PySem.F.sub_list_frozenset
  have hne : (Value.type "list" == Value.type "dict") = false := by decide
  refine wpAny_call (codeAny_of_tree ?_)
  show wpAny _ _ (callAny (.type "set") _) _ _ _
  refine wpAny_pure ⟨Code.quiet_builtin _ (by decide +kernel), codeAny_builtin PySem.F.entry_type_call ?_⟩
  rw [Around.under_plain (weight_type_call_type "set" [.ref l] []) rfl]
  repeat (any_goals (first | assumption | wp_step))
  refine codeAny_mono (code_set_new_1 (.ref l) (E := E) (Q₁ := fun obj u => ∃ led : Bool, obj = .ref s.heap.objs.size ∧ u = { s with heap := s.heap.push (mt led) }) fun led => ⟨led, rfl, rfl⟩) fun r u hr => ?_
  cases r with
  | error e => exact hr
  | ok fl =>
    cases fl with
    | ret obj =>
      obtain ⟨led, rfl, rfl⟩ := hr
      have at0 : (s.heap.push (mt led)).get? s.heap.objs.size = some (mt led) := Heap.get?_push_size _ rfl
      have ty0 : Shared.TypeIs { s with heap := s.heap.push (mt led) } (.ref s.heap.objs.size) "set" := ⟨_, at0, rfl⟩
      have hbi := PySem.F.called_set.init.bind (.ref s.heap.objs.size)
      repeat (any_goals (first | assumption | wp_step))
      refine codeAny_mono (codeAny_call_builtin (R := wants (fun r u => r = .none ∧ ∃ h' tk, u = { s with heap := h', toks := tk } ∧ Met prog w s.heap.objs.size xs h' ∧ ∀ b o, s.heap.get? b = some o → h'.get? b = some o) E)
        PySem.F.called_set.init.plain PySem.F.entry_set_init (check_set_init_1 ty0 ?_)) fun r2 u2 hr2 => ?_
      · obtain ⟨⟨ocls, odict, odata, oslots⟩, hol, hcl, nl, hdl⟩ := hl
        simp only at hcl hdl
        subst hcl
        subst hdl
        have hol' := Heap.get?_push_of_some (mt led) hol
        have hl1 : (s.heap.push (mt led)).IsList l items := ⟨_, hol', rfl, nl, rfl⟩
        unfold Builtin.«set.__init__» noKeywords Builtin.Frozenset.updateFrom
        generalize hPI : pyIter = PI
        wp_walk
        subst hPI
        refine wpAny_pyIter_list hl1 (wpAny_bind (wpAny_runValue ?_))
        have below : l < s.heap.objs.size := Heap.lt_size hol
        have sz : (s.heap.push (mt led)).objs.size = s.heap.objs.size + 1 := Heap.size_push ..
        have calm3 : A.in1.in1.in1.handled = none := by simp [calm]
        have apart : l ≠ (s.heap.push (mt led)).objs.size := by rw [sz]; exact Nat.ne_of_lt (Nat.lt_succ_of_lt below)
        have off : s.heap.objs.size ∉ [(s.heap.push (mt led)).objs.size, l] := fun q => by
          rw [sz] at q
          rcases List.mem_cons.mp q with q | q
          · exact absurd q (Nat.ne_of_lt (Nat.lt_succ_self _))
          · exact absurd (List.mem_singleton.mp q) (Nat.ne_of_gt below)
        have val : ∀ (i : Nat) (v : Value), items[i]? = some v → ∃ x t, xs[i]? = some x ∧ v = .str x t := fun i v hv => by
          obtain ⟨t, e⟩ := SS.strs_at hi i v (by rw [Array.getElem?_toList]; exact hv)
          have lt : i < xs.length := by
            rw [len]
            obtain ⟨z, _⟩ := Array.getElem?_eq_some_iff.mp hv
            exact z
          refine ⟨_, t, List.getElem?_eq_getElem lt, ?_⟩
          rw [e, List.getD_eq_getElem?_getD, List.getElem?_eq_getElem lt]
          rfl
        refine set_turns ((Walks.list calm3 _ l apart items).toS) s.heap.objs.size off xs nd len (by rw [← len]; exact few) val items.size 0 _ (Nat.zero_add _)
          ⟨⟨_, Heap.get?_push_size _ rfl, rfl, rfl⟩, hl1.push _⟩ ?start fun s' mv ms => ?_
        case start =>
          have got := Heap.get?_push_of_some { cls := .type "list_iterator", data := .fields #[.ref l, .int 0 0] : Obj } at0
          exact PyProof.Rows.SetOf_congr ((PyProof.Rows.setObjOf_fresh (knd := PySem.strKind prog w) led).setOf got (by unfold scanBound; omega)) (fun _ => rfl) rfl
        · obtain ⟨h', g', d', tk', os'⟩ := s'
          obtain rfl : g' = s.gens := mv.gens
          obtain rfl : d' = s.drawn := mv.drawn
          obtain rfl : os' = s.os := mv.os
          show wpAny _ _ _ _ _ _
          refine wpAny_pure ?_
          show wpAny _ _ (ret Value.none) _ _ _
          refine wpAny_pure ⟨rfl, h', tk', rfl, ms, fun b o e => ?_⟩
          have lt := Heap.lt_size e
          refine mv.heap b o (fun q => ?_) (Heap.get?_push_of_some _ (Heap.get?_push_of_some _ e))
          rcases List.mem_cons.mp q with q | q
          · exact absurd q (Nat.ne_of_lt lt)
          · have q := List.mem_singleton.mp q
            rw [sz] at q
            exact absurd q (Nat.ne_of_lt (Nat.lt_succ_of_lt lt))
      · cases r2 with
        | error e => exact hr2
        | ok fl2 =>
          cases fl2 with
          | ret r =>
            obtain ⟨rfl, h', tk, rfl, ms, keep⟩ := hr2
            repeat (any_goals (first | assumption | wp_step))
            exact fin _ _ ms keep
          | _ => exact hr2.elim
    | _ => exact hr.elim
end
/-- len(set(xs)) of a list of texts that differ -/
def tLenSetS (K : PySem.W.Frag) (ta : TE) : TE := fun σ H Q => ta σ H fun x H1 => ∃ (l : Addr) (xs : List Str), x = .ref l ∧ SqL K H1 l (xs.map V.str) ∧ xs.Nodup ∧ xs.length ≤ 100 ∧ Q (.int xs.length) H1
theorem pe_lenSetS {X : Cx} {a : Expr} {ta : TE} {p p2 q pos : Pos} (hg : Gl X "len") (hm : X.mg "len" = none) (hg2 : Gl X "set") (hm2 : X.mg "set" = none) (ha : PE X a ta) (calm : X.calm = true := by rfl)
    (na : starEach [a] X.env = (false, eval a X.env) :: starEach [] X.env := by rfl) : PE X (.Call (.Name "len" p) [.Call (.Name "set" p2) [a] [] q] [] pos) (tLenSetS X.K ta) := by
  refine ⟨fun pins s σ H Q I h => Call_ (ld_blt I hg hm boot_len (PyProof.Rows.callWith_builtin1 (PyProof.Rows.args_cons (Call_ (ld_blt I hg2 hm2 boot_set ?_)) rfl) rfl rfl))⟩
  refine PyProof.Rows.callWith_type1 (PyProof.Rows.args_cons (thn (ha.run pins s σ H _ I h) fun v s1 ⟨x, H1, I1, r1, l, xs, ex, hq, nd, few, fin⟩ => PyProof.Rows.args_nil ?_) na) na rfl
  subst ex
  obtain rfl : v = Value.ref l := r1
  obtain ⟨its, r, pl, _⟩ := I1.list hq
  refine set_of_texts (I1.ok.hd calm) pl.isList (by simpa using strsAre_of r) nd (by unfold scanBound; omega) fun h' tk ms keep => PyProof.Rows.args_nil ?_
  obtain ⟨o, es, ep, t, ho, hex, hd, _, _, _, hf, hn⟩ := ms
  have I2 : Inv X pins σ H1 { s1 with heap := h', toks := tk } := I1.kept keep
  exact call_len_set ho hex hd hf (by rw [hn]; omega) ⟨.int xs.length, H1, I2.tok _, ⟨_, by rw [hn]⟩, fin⟩
end FF
/-! What the program tells of a form. -/
namespace FF
open PySem L2
def IpAt (H : Hp) (v : V) (i : Str × Is) : Prop := ∃ a, v = .ref a ∧ H a = some (.tup [.str i.1, .str i.2.z])
theorem IpAt.tm {H H' : Hp} (t : Tm H H') {v : V} {p : Str × Is} (h : IpAt H v p) : IpAt H' v p := by
  obtain ⟨a, e, h⟩ := h
  exact ⟨a, e, t _ _ h⟩
def IsAt (H : Hp) (l : Addr) (is : List (Str × Is)) : Prop := ∃ vs, H l = some (.lst vs) ∧ All2 (IpAt H) vs is
theorem twiceM_len : ∀ xs : List Str, (twiceM xs).length ≤ xs.length
  | [] => Nat.le_refl _
  | x :: xs => by
    have ih := twiceM_len xs
    show (if x ∈ xs then (x, Is.twice) :: twiceM xs else twiceM xs).length ≤ xs.length + 1
    split
    · exact Nat.succ_le_succ ih
    · exact Nat.le_succ_of_le ih
theorem allNames_len : ∀ F : List Sct, (allNames F).length = sizeF F
  | [] => rfl
  | s :: F => by
    have ih := allNames_len F
    simp only [allNames, List.flatMap_cons, List.length_append] at ih ⊢
    rw [ih]
    simp [namesS, sizeF]
theorem fldsM_mem {sv : Sv} {row : Bool} : ∀ {fs : List Fld} {own : List (Str × Option Kd)} {p : Fld × Sc}, p ∈ fldsM sv row own fs → p.1 ∈ fs
  | [], _, _, h => by cases h
  | f :: fs, own, p, h => by
    rcases List.mem_cons.mp h with e | h
    · rw [e]; exact List.mem_cons_self
    · exact List.mem_cons_of_mem _ (fldsM_mem h)
theorem places_mem : ∀ {F : List Sct} {sv : Sv} {pl : Pl}, pl ∈ placesM sv F → (∀ f, pl.2.1 = some f → ∃ s ∈ F, f ∈ s.fields) ∧ ∀ s, pl.1 = some s → s ∈ F
  | [], sv, pl, h => by
    have e := List.mem_singleton.mp h
    subst e
    exact ⟨fun f e => (by cases e), fun s e => (by cases e)⟩
  | s :: F, sv, pl, h => by
    rcases List.mem_append.mp h with h | h
    · rcases List.mem_cons.mp h with e | h
      · subst e
        exact ⟨fun f e => (by cases e), fun t e => (by cases e; exact List.mem_cons_self)⟩
      · obtain ⟨p, hp, e⟩ := List.mem_map.mp h
        subst e
        exact ⟨fun f e => (by cases e; exact ⟨s, List.mem_cons_self, fldsM_mem hp⟩), fun t e => (by cases e; exact List.mem_cons_self)⟩
    · obtain ⟨h1, h2⟩ := places_mem h
      exact ⟨fun f e => let ⟨t, ht, hf⟩ := h1 f e; ⟨t, List.mem_cons_of_mem _ ht, hf⟩, fun t e => List.mem_cons_of_mem _ (h2 t e)⟩
theorem places_len : ∀ (F : List Sct) (sv : Sv), (placesM sv F).length = sizeF F + 1 := fun F sv => by rw [places_eq, List.length_append, secsPl_len]; rfl
def spTwice : Sp := fun vs H Q _ => ∃ (F : List Sct) (v : V), vs = [v] ∧ FrmAt H v F ∧ sizeF F ≤ 50 ∧ ∀ l H', H l = none → Same H H' → IsAt H' l (twiceM (allNames F)) → Q (.ref l) H'
def spIsNo (C : Addr) (n : Nat) : Sp := fun vs H Q _ => ∃ (q : Addr) (s : Sc) (o : Option Ex) (v : V) (k : Kd), vs = [.ref q, v, .str k.z] ∧ ScAt C H q s ∧ OxAt H o v ∧ (∀ e, o = some e → e.ht < n) ∧ ∀ H', Same H H' → Q (.bl (isNo s o k)) H'
section
variable {P : Program} {w : World} {K : PySem.W.Frag} {mg : Str → Option Value} {base : Heap} {cSc cSv aW aP aN aO aA : Addr}
abbrev s_twice : Stmt := top 18
theorem sc_twice : FnScope ["form", "names", "section", "field", "at", "name"] ["form"] (defScope s_twice) := ⟨rfl, rfl, rfl, by decide +kernel, rfl, by decide +kernel, by decide +kernel⟩
theorem ok_twice {f : Addr} {fd : FuncData} (T : Txt K mg w cSc cSv aW aP aN aO aA) (F : Fun K "twice" "twice" s_twice f fd) : FnOk P w K mg base CX0 1 f fd ["form"] spTwice := by
  refine F.ok sc_twice (fun vs H Q E h => ?_) (fun cdv A outer s H vs Q E hr h => ?_)
  · obtain ⟨F, v, rfl, _⟩ := h
    rfl
  obtain ⟨F, v, rfl, ⟨fa, fvs, rfl, hfa, fal⟩, hsz, k⟩ := h
  refine ⟨_, (pss_cons (ps_set (i := 1) sc_twice.nd rfl (Or.inr rfl) (pe_lstN pa_nil))
      (pss_cons (ps_for PassesOwn.never rfl (pi_tup (pv 0)) (pg_name (i := 2) sc_twice.nd rfl (Or.inl rfl) (hf := Or.inl rfl))
        (pss_cons (ps_expr (pe_bm PySem.F.plainAttrs_list PySem.F.slot_list_append PySem.F.type_list_append mt_appendN (pv 1) (pa_cons (pe_ix (r := rIxT K) ix_tup (pv 2) pe_int (fun _ _ => rfl)) pa_nil)))
        (pss_one (ps_expr (pe_bm PySem.F.plainAttrs_list PySem.F.slot_list_extend PySem.F.type_list_extend mt_extendN (pv 1) (pa_cons (pe_lc (own := [("field", 3)]) (g := gName 3) (by rfl) sc_twice.nd (pi_tup (pe_ix (r := rIxT K) ix_tup (pv 2) pe_int (fun _ _ => rfl))) (blkOk_by (N := ["form", "names", "section", "field", "at", "name"]) (sc := defScope s_twice) (by decide +kernel)) (fun _ _ _ _ _ => pg_name (i := 3) sc_twice.nd rfl (Or.inl rfl) (hf := Or.inr rfl)) (fun _ _ _ _ _ => pts_nil) (fun _ _ _ _ _ => (pe_ix (r := rIxT K) ix_tup (pv 3) pe_int (fun _ _ => rfl)))) pa_nil))))))
      (pss_one (ps_ret (pe_lc (own := [("at", 4), ("name", 5)]) (g := gTup K 2 (gCons (gName 4) (gCons (gName 5) gNil))) (by rfl) sc_twice.nd (pi_enum (by rfl) T.enumerate (pa_cons (pv 1) pa_nil)) (blkOk_by (N := ["form", "names", "section", "field", "at", "name"]) (sc := defScope s_twice) (by decide +kernel)) (fun _ _ _ _ _ => pg_tup rfl (pgs_cons (pg_name (i := 4) sc_twice.nd rfl (Or.inl rfl) (hf := Or.inr rfl)) (pgs_cons (pg_name (i := 5) sc_twice.nd rfl (Or.inl rfl) (hf := Or.inr rfl)) pgs_nil))) (fun _ _ _ _ _ => pts_one (pt_cmpR (r := rIn K false) op_in_seq (pv 5) (pe_slice (r := uSlL K) sl_listN (pv 1) (po_some (pe_op op_add (pv 4) pe_int)) po_none) (by rfl))) (fun _ _ _ _ _ => (pe_tupN (pa_cons (pv 5) (pa_cons pe_str pa_nil))))))))), ?_⟩
  refine ⟨Nat.zero_le _, fun l H1 nl s1 h1 => ?_⟩
  have hlenF := fal.len
  refine ⟨_, rfl, fa, rfl, ⟨_, sq_tup (s1 _ _ hfa)⟩, ?_⟩
  refine for_tup (K := K) (a := fa) (xs := fvs) (fun i σ H' => ∃ u2, σ = [some (.ref fa), some (.ref l), u2, none, none, none] ∧ Same H H' ∧ H' l = some (.lst ((allNames (F.take i)).map V.str)))
    ⟨none, rfl, s1, h1⟩ (fun i σ H' _ ⟨_, _, s', _⟩ => sq_tup (s' _ _ hfa)) ?_ ?_
  · rintro i x σ H2 hi ⟨u2, rfl, s2, hl2⟩
    obtain ⟨sec, hsec, hx⟩ := fal.get hi
    obtain ⟨t, cx, fb, fvs2, rfl, ht, _, hfb, fal2⟩ := hx
    have hsz' := sizeF_take hsec
    have hlen2 := fal2.len
    refine ⟨_, rfl, .inl ⟨rfl, _, SqL.of hl2⟩, _, rfl, t, _, 0, _, rfl, rfl, sq_tup (s2 _ _ ht), at0, l, _, _, rfl, rfl, hl2, lt_line (by rw [List.length_map, allNames_len]; omega), fun H3 b3 h3 => ?_⟩
    have s3 : Same H H3 := same_but s2 b3 nl
    refine ⟨_, rfl, .inl ⟨rfl, _, SqL.of h3⟩, _, rfl, t, _, 3, _, rfl, rfl, sq_tup (s3 _ _ ht), at3, fb, rfl, ⟨_, sq_tup (s3 _ _ hfb)⟩, fun D nD => ?_⟩
    refine lc_tup (K := K) (a := fb) (xs := fvs2) (fun j H' => Same H3 H' ∧ H' D = some (.lst (((sec.fields.take j).map (·.name)).map V.str)))
      ⟨same_upd nD, upd_same⟩ (fun j H' _ ⟨s', _⟩ => sq_tup (s' _ _ (s3 _ _ hfb))) ?_ ?_
    · rintro j y H4 hj ⟨s4, hD⟩
      obtain ⟨fld, hfld, hy⟩ := fal2.get hj
      have hj2 := (List.getElem?_eq_some_iff.mp hfld).1
      obtain ⟨fa2, fz, fx, fy, fr, rfl, hfa2, _, _⟩ := (hy.tm (tm_same (s3.trans s4))).view
      refine ⟨rfl, ?_⟩
      refine ⟨_, rfl, fa2, _, 1, _, rfl, rfl, sq_tup hfa2, at1, _, hD, lt_line (by rw [List.length_map, List.length_map, List.length_take]; omega), same_but s4 but_upd nD, ?_⟩
      rw [upd_same, take_snoc hfld, List.map_append, List.map_append]
      rfl
    · rintro H4 ⟨s4, hD⟩
      have et : sec.fields.take fvs2.length = sec.fields := List.take_of_length_le (by omega)
      rw [et] at hD
      refine ⟨l, D, _, _, rfl, rfl, s4 _ _ h3, hD, le_line ?_, fun H5 b5 h5 => ?_⟩
      · simp only [List.length_append, List.length_map, allNames_len, List.length_cons, List.length_nil]
        omega
      · refine ⟨_, rfl, same_but (s3.trans s4) b5 nl, ?_⟩
        rw [h5, take_snoc hsec]
        have e : allNames (F.take i ++ [sec]) = allNames (F.take i) ++ (sec.name :: sec.fields.map (·.name)) := by
          simp [allNames, namesS]
        rw [e, List.map_append, List.append_assoc]
        rfl
  · rintro σ H2 ⟨u2, rfl, s2, hl2⟩
    have et : F.take fvs.length = F := List.take_of_length_le (by omega)
    rw [et] at hl2
    refine ⟨_, rfl, l, _, rfl, SqL.of hl2, fun D nD => ?_⟩
    have ln := allNames_len F
    refine lc_it (walk_enum (K := K) (a := l) (xs := (allNames F).map V.str)) (fun i H' => Same H2 H' ∧ ∃ ys pre, H' D = some (.lst ys) ∧ twiceM (allNames F) = pre ++ twiceM ((allNames F).drop i) ∧ All2 (IpAt H') ys pre ∧ ys.length ≤ i)
      ⟨same_upd nD, [], [], upd_same, rfl, trivial, Nat.zero_le _⟩ (fun i H' _ ⟨s', _⟩ => SqL.of (s' _ _ hl2)) ?_ ?_
    · rintro i x H3 H4 hi ⟨s3, ys, pre, hD, epre, al, yl⟩ ⟨t, x1, x2, rfl, nt, rfl, e1, e2⟩
      obtain rfl : V.int (i : Nat) = x1 := Option.some.inj e1
      have e2 : ((allNames F).map V.str)[i]? = some x2 := e2
      rw [List.length_map] at hi
      rw [List.getElem?_map, List.getElem?_eq_getElem hi] at e2
      obtain rfl : V.str (allNames F)[i] = x2 := Option.some.inj e2
      have s4 := same_upd (o := HO.tup [V.int (i : Nat), V.str (allNames F)[i]]) nt
      have l4 := s4 _ _ (s3 _ _ hl2)
      refine ⟨t, _, rfl, sq_tup upd_same, rfl, _, _, rfl, _, _, rfl, rfl, rfl, ?_⟩
      refine ⟨_, rfl, _, rfl, _, rfl, _, _, rfl, rfl, _, rfl, l, _, rfl, SqL.of l4, fun p H5 _ s5 h5 => ?_⟩
      have ecut : cutV ((allNames F).map V.str) (some ((i : Int) + 1)) none = ((allNames F).drop (i + 1)).map V.str := by
        have := cut_from (xs := (allNames F).map V.str) (n := i + 1) (by rw [List.length_map]; omega)
        rw [List.map_drop]
        exact this
      rw [ecut] at h5
      refine ⟨p, _, rfl, .inl (SqL.of h5), rfl, flatS _, _, rfl, it_c (inV_str _ _) ?_⟩
      have dr : (allNames F).drop i = (allNames F)[i] :: (allNames F).drop (i + 1) := List.drop_eq_getElem_cons hi
      have s35 := (s4.trans s5)
      have hD5 := s35 _ _ hD
      have fl : H D = none := s2.free nD
      refine ite2 (fun c => ?_) (fun c => ?_)
      · refine ⟨_, rfl, le_line (by simp), fun t2 H6 _ s6 h6 => ⟨ys, s6 _ _ hD5, lt_line (by omega), ?_⟩⟩
        have s36 := s35.trans s6
        have hD6 := s6 _ _ hD5
        refine ⟨same_but (s3.trans s36) but_upd nD, _, pre ++ [((allNames F)[i], Is.twice)], upd_same, ?_, All2.snoc (al.imp fun _ _ z => (z.tm (tm_same s36)).tm (tm_lst but_upd hD6)) ⟨t2, rfl, tm_lst but_upd hD6 _ _ h6⟩, by simp; omega⟩
        · rw [epre, dr, List.append_assoc]
          show pre ++ (if (allNames F)[i] ∈ (allNames F).drop (i + 1) then _ else _) = _
          rw [if_pos (of_decide_eq_true c)]
          rfl
      · refine ⟨s3.trans s35, ys, pre, hD5, ?_, al.imp fun _ _ z => z.tm (tm_same s35), by omega⟩
        rw [epre, dr]
        show pre ++ (if (allNames F)[i] ∈ (allNames F).drop (i + 1) then _ else _) = _
        rw [if_neg fun z => c (decide_eq_true z)]
    · rintro H3 ⟨s3, ys, pre, hD, epre, al, yl⟩
      have ed : (allNames F).drop ((allNames F).map V.str).length = [] := List.drop_eq_nil_of_le (by rw [List.length_map]; exact Nat.le_refl _)
      rw [ed] at epre
      refine k D H3 ((s2).free nD) (s2.trans s3) ⟨ys, hD, ?_⟩
      rw [epre]
      simpa [twiceM] using al
abbrev s_is_no : Stmt := top 19
theorem sc_is_no : FnScope ["scope", "expression", "kind"] ["scope", "expression", "kind"] (defScope s_is_no) := ⟨rfl, rfl, rfl, by decide +kernel, rfl, by decide +kernel, by decide +kernel⟩
theorem ok_is_no {n : Nat} {f : Addr} {fd : FuncData} (T : Txt K mg w cSc cSv aW aP aN aO aA) (F : Fun K "is_no" "is_no" s_is_no f fd) (G_Scope_kind : HasM P w K mg base cSc "kind" (2 * n) ["self", "expression"] (spKind cSc n)) :
    FnOk P w K mg base CX0 (2 * n + 1) f fd ["scope", "expression", "kind"] (spIsNo cSc n) := by
  refine F.ok sc_is_no (fun vs H Q E h => ?_) (fun cdv A outer s H vs Q E hr h => ?_)
  · obtain ⟨q, s, o, v, k, rfl, _⟩ := h
    rfl
  obtain ⟨q, sc, o, v, kd, rfl, hs, ho, ht, k⟩ := h
  refine ⟨_, (pss_one (ps_ret (pe_and (pe_cmp (pc_notN (pv 1))) (pe_one (pe_cmpR op_ne (pe_methH (pv 0) T.cl_Scope G_Scope_kind (hr.mono (by omega)) (pa_cons (pv 1) pa_nil)) (pv 2) (nomark _)))))), ?_⟩
  cases o with
  | none =>
    have ho : v = .non := ho
    subst ho
    exact ⟨_, rfl, _, rfl, it_n rfl (k H (Same.refl _))⟩
  | some e =>
    have ho : ExAt H e v := ho
    obtain ⟨c, zs, rfl, hc⟩ := ho.ref
    refine ⟨_, rfl, _, rfl, it_y rfl ?_⟩
    obtain ⟨dx, n1, o1, m1, hp, _⟩ := id hs
    refine ⟨_, rfl, q, dx, _, rfl, hp, kind_no _ _ _ _, _, rfl, q, e, _, sc, rfl, hs, ho, ht e rfl, fun H1 s1 => ?_⟩
    have fin := k H1 s1
    refine ⟨_, rfl, scal_oV (kindM sc e) (some kd), ?_⟩
    have e2 : (!decide (oV (kindM sc e) = oV (some kd))) = isNo sc (some e) kd := by
      rw [dec_oV]
      rfl
    have fin2 : Q (.bl (!decide (oV (kindM sc e) = oV (some kd)))) H1 := by rw [e2]; exact fin
    exact fin2
end
/-! ### promises -/
def spQIss (C : Addr) (n : Nat) : Sp := fun vs H Q _ => ∃ (x : Str) (k : Qk) (v : V) (q : Addr) (s : Sc), vs = [.str x, v, .ref q] ∧ QkAt H k v ∧ ScAt C H q s ∧ (∀ e ∈ qExprs k, e.ht < n) ∧
  ∀ l H', Same H H' → H l = none → IsAt H' l (qIss s x k) → (qIss s x k).length ≤ 5 → Q (.ref l) H'
def spFIss (C : Addr) (n : Nat) : Sp := fun vs H Q _ => ∃ (f : Fld) (v : V) (q : Addr) (s : Sc), vs = [v, .ref q] ∧ FldAt H v f ∧ ScAt C H q s ∧ (∀ e ∈ exprsM f, e.ht < n) ∧
  ∀ l H', Same H H' → H l = none → IsAt H' l (fieldIss s f) → (fieldIss s f).length ≤ 7 → Q (.ref l) H'
def spIssues (n : Nat) : Sp := fun vs H Q _ => ∃ (F : List Sct) (v : V), vs = [v] ∧ FrmAt H v F ∧ FHt n F ∧ sizeF F ≤ 50 ∧
  ∀ l H', Same H H' → H l = none → IsAt H' l (issuesM F) → (issuesM F).length ≤ 1000 → Q (.ref l) H'
section
variable {P : Program} {w : World} {K : PySem.W.Frag} {mg : Str → Option Value} {base : Heap} {cSc cSv aW aP aN aO aA : Addr}
abbrev s_question_issues : Stmt := top 20
theorem sc_question_issues : FnScope ["name", "kind", "scope", "found", "options", "bound", "option", "_", "condition"] ["name", "kind", "scope"] (defScope s_question_issues) := ⟨rfl, rfl, rfl, by decide +kernel, rfl, by decide +kernel, by decide +kernel⟩
theorem ok_question_issues {n : Nat} {f : Addr} {fd : FuncData} (T : Txt K mg w cSc cSv aW aP aN aO aA) (F : Fun K "question_issues" "question_issues" s_question_issues f fd)
    (G_is_no : Has P w K mg base "is_no" (2 * n + 1) ["scope", "expression", "kind"] (spIsNo cSc n)) : FnOk P w K mg base CX0 (2 * n + 2) f fd ["name", "kind", "scope"] (spQIss cSc n) := by
  refine F.ok sc_question_issues (fun vs H Q E h => ?_) (fun cdv A outer s H vs Q E hr h => ?_)
  · obtain ⟨x, k, v, q, s, rfl, _⟩ := h
    rfl
  obtain ⟨x, kd, v, q, sc, rfl, hq, hs, ht, k⟩ := h
  refine ⟨_, (pss_cons (ps_set (i := 3) sc_question_issues.nd rfl (Or.inl rfl) (pe_lstN pa_nil))
      (pss_cons (ps_if (pt_cmpR op_eq (pe_ix (r := rIxT K) ix_tup (pv 1) pe_int (fun _ _ => rfl)) (glS T.bounded (by rfl)) (nomark _))
        (pss_one (ps_setLc (i := 3) (own := [("bound", 5)]) (g := gName 5) (by rfl) sc_question_issues.nd rfl rfl (sw_true rfl rfl rfl (by decide +kernel)) (pi_tup (pe_slice sl_tupN (pv 1) (po_some pe_int) po_none)) (blkOk_by (N := ["name", "kind", "scope", "found", "options", "bound", "option", "_", "condition"]) (sc := defScope s_question_issues) (by decide +kernel)) (fun _ _ _ _ _ => pg_name (i := 5) sc_question_issues.nd rfl (Or.inl rfl) (hf := Or.inr rfl)) (fun _ _ _ _ _ => pts_one (pt_val (pe_callH G_is_no (hr.mono (by omega)) (by rfl) (pa_cons (pv 2) (pa_cons (pv 5) (pa_cons pe_str pa_nil)))))) (fun _ _ _ _ _ => (pe_tupN (pa_cons (pv 0) (pa_cons pe_str pa_nil))))))
        pss_nil)
      (pss_cons (ps_if (pt_cmpR (r := rIn K false) op_in_seq (pe_ix (r := rIxT K) ix_tup (pv 1) pe_int (fun _ _ => rfl)) (pe_glob (v := .ref aW) (by rfl) T.mW rfl) (by rfl))
        (pss_cons (ps_setLc (i := 4) (own := [("option", 6), ("_", 7)]) (g := gTup K 2 (gCons (gName 6) (gCons (gName 7) gNil))) (by rfl) sc_question_issues.nd rfl rfl (sw_true rfl rfl rfl (by decide +kernel)) (pi_tup (pe_ix (r := rIxT K) ix_tup (pv 1) pe_int (fun _ _ => rfl))) (blkOk_by (N := ["name", "kind", "scope", "found", "options", "bound", "option", "_", "condition"]) (sc := defScope s_question_issues) (by decide +kernel)) (fun _ _ _ _ _ => pg_tup rfl (pgs_cons (pg_name (i := 6) sc_question_issues.nd rfl (Or.inl rfl) (hf := Or.inr rfl)) (pgs_cons (pg_name (i := 7) sc_question_issues.nd rfl (Or.inl rfl) (hf := Or.inr rfl)) pgs_nil))) (fun _ _ _ _ _ => pts_nil) (fun _ _ _ _ _ => (pv 6)))
        (pss_cons (ps_if (pt_cmpR op_lt (pe_lenSetS (by rfl) T.len (by rfl) T.set (pv 4)) (pe_callB call_len_seq (by rfl) T.len (by decide +kernel) (pa_cons (pv 4) pa_nil)) (nomark _))
          (pss_one (ps_expr (pe_bm PySem.F.plainAttrs_list PySem.F.slot_list_append PySem.F.type_list_append mt_appendN (pv 3) (pa_cons (pe_tupN (pa_cons (pv 0) (pa_cons pe_str pa_nil))) pa_nil))))
          pss_nil)
        (pss_one (ps_expr (pe_bm PySem.F.plainAttrs_list PySem.F.slot_list_extend PySem.F.type_list_extend mt_extendN (pv 3) (pa_cons (pe_lc (own := [("_", 7), ("condition", 8)]) (g := gTup K 2 (gCons (gName 7) (gCons (gName 8) gNil))) (by rfl) sc_question_issues.nd (pi_tup (pe_ix (r := rIxT K) ix_tup (pv 1) pe_int (fun _ _ => rfl))) (blkOk_by (N := ["name", "kind", "scope", "found", "options", "bound", "option", "_", "condition"]) (sc := defScope s_question_issues) (by decide +kernel)) (fun _ _ _ _ _ => pg_tup rfl (pgs_cons (pg_name (i := 7) sc_question_issues.nd rfl (Or.inl rfl) (hf := Or.inr rfl)) (pgs_cons (pg_name (i := 8) sc_question_issues.nd rfl (Or.inl rfl) (hf := Or.inr rfl)) pgs_nil))) (fun _ _ _ _ _ => pts_one (pt_val (pe_callH G_is_no (hr.mono (by omega)) (by rfl) (pa_cons (pv 2) (pa_cons (pv 8) (pa_cons pe_str pa_nil)))))) (fun _ _ _ _ _ => (pe_tupN (pa_cons (pv 0) (pa_cons pe_str pa_nil))))) pa_nil))))))
        pss_nil)
      (pss_one (ps_ret (pv 3)))))), ?_⟩
  refine ⟨Nat.zero_le _, fun l H1 nl s1 h1 => ?_⟩
  cases kd with
  | truth =>
    obtain ⟨a, rfl, ha⟩ := hq
    have ha1 := sq_tup (K := K) (s1 _ _ ha)
    refine ⟨_, rfl, a, _, 0, _, rfl, rfl, ha1, at0, rfl, _, rfl, it_n (by decide +kernel) ?_⟩
    refine ⟨_, rfl, a, _, 0, _, rfl, rfl, ha1, at0, aW, _, rfl, .inr (T.qW _), rfl, rfl, _, rfl, it_n (by decide +kernel) ?_⟩
    exact ⟨_, rfl, k l H1 s1 nl ⟨[], h1, trivial⟩ (Nat.zero_le _)⟩
  | text =>
    obtain ⟨a, rfl, ha⟩ := hq
    have ha1 := sq_tup (K := K) (s1 _ _ ha)
    refine ⟨_, rfl, a, _, 0, _, rfl, rfl, ha1, at0, rfl, _, rfl, it_n (by decide +kernel) ?_⟩
    refine ⟨_, rfl, a, _, 0, _, rfl, rfl, ha1, at0, aW, _, rfl, .inr (T.qW _), rfl, rfl, _, rfl, it_n (by decide +kernel) ?_⟩
    exact ⟨_, rfl, k l H1 s1 nl ⟨[], h1, trivial⟩ (Nat.zero_le _)⟩
  | integer lo hi =>
    obtain ⟨a, y1, y2, rfl, ha, hlo, hhi⟩ := hq
    have ha1 := sq_tup (K := K) (s1 _ _ ha)
    refine ⟨_, rfl, a, _, 0, _, rfl, rfl, ha1, at0, rfl, _, rfl, it_y (by decide +kernel) ?_⟩
    refine ⟨_, rfl, _, rfl, a, _, rfl, s1 _ _ ha, fun p H2 s2 h2 => ⟨p, rfl, ⟨_, sq_tup h2⟩, fun D nD => ?_⟩⟩
    rw [cut1] at h2
    have s12 := s1.trans s2
    have both : All2 (fun v o => OxAt H o v) [y1, y2] [lo, hi] := ⟨hlo, hhi, trivial⟩
    refine lc_tup (K := K) (a := p) (xs := [y1, y2]) (fun i H' => Same H2 H' ∧ ∃ ys, H' D = some (.lst ys) ∧ ys.length ≤ i ∧ All2 (IpAt H') ys ((([lo, hi].take i).filter fun o => isNo sc o .number).map fun _ => (x, Is.bound)))
      ⟨same_upd nD, [], upd_same, Nat.zero_le _, trivial⟩ (fun i H' _ ⟨s', _⟩ => sq_tup (s' _ _ h2)) ?_ ?_
    · rintro i u H3 hi3 ⟨s3, ys, hD, yl, al⟩
      obtain ⟨o, ho, hu⟩ := both.get hi3
      have s13 := s12.trans s3
      have hi2 := (List.getElem?_eq_some_iff.mp hi3).1
      have hl2 : ([y1, y2] : List V).length = 2 := rfl
      refine ⟨rfl, ?_⟩
      refine ⟨_, rfl, _, rfl, q, sc, o, u, .number, rfl, hs.same s13, hu.tm (tm_same s13), fun e eo => ht e ?_, fun H4 s4 => ⟨_, rfl, ?_⟩⟩
      · rw [eo] at ho
        have : some e ∈ [lo, hi] := List.mem_of_getElem? ho
        simp only [List.mem_cons, List.not_mem_nil, or_false] at this
        show e ∈ lo.toList ++ hi.toList
        rcases this with z | z <;> rw [← z] <;> simp
      · have hD4 := s4 _ _ hD
        rw [take_snoc ho, List.filter_append, List.map_append]
        refine ite2 (fun c => ?_) (fun c => ?_)
        · refine ⟨_, rfl, le_line (by simp), fun t H5 _ s5 h5 => ⟨ys, s5 _ _ hD4, lt_line (by omega), ?_⟩⟩
          have s45 := s4.trans s5
          have hD5 := s5 _ _ hD4
          refine ⟨same_but (s3.trans s45) but_upd nD, _, upd_same, by rw [List.length_append, List.length_singleton]; omega, ?_⟩
          rw [List.filter_cons, if_pos c]
          exact All2.snoc (al.imp fun _ _ z => (z.tm (tm_same s45)).tm (tm_lst but_upd hD5)) ⟨t, rfl, tm_lst but_upd hD5 _ _ h5⟩
        · rw [List.filter_cons, if_neg c]
          refine ⟨s3.trans s4, ys, hD4, by omega, ?_⟩
          rw [show ([] : List (Option Ex)).filter (fun o => isNo sc o .number) = [] from rfl, List.map_nil, List.append_nil]
          exact al.imp fun _ _ z => z.tm (tm_same s4)
    · rintro H3 ⟨s3, ys, hD, yl, al⟩
      have s13 := s12.trans s3
      refine ⟨_, rfl, a, _, 0, _, rfl, rfl, sq_tup (s13 _ _ ha), at0, aW, _, rfl, .inr (T.qW _), rfl, rfl, _, rfl, it_n (by decide +kernel) ?_⟩
      refine ⟨_, rfl, k D H3 s13 (s12.free nD) ⟨ys, hD, al⟩ ?_⟩
      have : ([lo, hi].filter fun o => isNo sc o .number).length ≤ [lo, hi].length := List.length_filter_le _ _
      simp only [qIss, List.length_map]
      simp only [List.length_cons, List.length_nil] at this
      omega
  | opts m os =>
    obtain ⟨a, b, vs, rfl, ha, hb, al, nd, five⟩ := hq
    have ha1 := sq_tup (K := K) (s1 _ _ ha)
    have hlen := al.len
    refine ⟨_, rfl, a, _, 0, _, rfl, rfl, ha1, at0, rfl, _, rfl, it_n (by cases m <;> decide +kernel) ?_⟩
    refine ⟨_, rfl, a, _, 0, _, rfl, rfl, ha1, at0, aW, _, rfl, .inr (T.qW _), rfl, rfl, _, rfl, it_y (by cases m <;> decide +kernel) ?_⟩
    -- options = [option for option, _ in kind[1]]
    refine ⟨_, rfl, a, _, 1, _, rfl, rfl, ha1, at1, b, rfl, ⟨_, sq_tup (s1 _ _ hb)⟩, fun D nD => ?_⟩
    refine lc_tup (K := K) (a := b) (xs := vs) (fun i H' => Same H1 H' ∧ H' D = some (.lst (((os.take i).map (·.1)).map V.str)))
      ⟨same_upd nD, upd_same⟩ (fun i H' _ ⟨s', _⟩ => sq_tup ((s1.trans s') _ _ hb)) ?_ ?_
    · rintro i u H3 hi3 ⟨s3, hD⟩
      obtain ⟨o, ho, c, y, rfl, hc, hy⟩ := al.get hi3
      have hi2 := (List.getElem?_eq_some_iff.mp ho).1
      refine ⟨c, _, rfl, sq_tup ((s1.trans s3) _ _ hc), rfl, _, _, rfl, _, _, rfl, rfl, rfl, ?_⟩
      refine ⟨_, rfl, _, hD, lt_line (by rw [List.length_map, List.length_map, List.length_take]; omega), same_but s3 but_upd nD, ?_⟩
      rw [upd_same, take_snoc ho, List.map_append, List.map_append]
      rfl
    · rintro H3 ⟨s3, hD⟩
      have et : os.take vs.length = os := List.take_of_length_le (by omega)
      rw [et] at hD
      have s13 := s1.trans s3
      have hl3 := s3 _ _ h1
      -- len(set(options)) < len(options)
      refine ⟨_, rfl, D, _, rfl, SqL.of hD, nd, by rw [List.length_map]; omega, _, rfl, D, _, rfl, .inl (SqL.of hD), _, _, rfl, rfl, _, rfl, it_n (decide_eq_false (by simp)) ?_⟩
      -- found.extend([..])
      refine ⟨_, rfl, .inl ⟨rfl, _, SqL.of hl3⟩, _, rfl, a, _, 1, _, rfl, rfl, sq_tup (s13 _ _ ha), at1, b, rfl, ⟨_, sq_tup (s13 _ _ hb)⟩, fun D2 nD2 => ?_⟩
      refine lc_tup (K := K) (a := b) (xs := vs) (fun i H' => Same H3 H' ∧ ∃ ys, H' D2 = some (.lst ys) ∧ ys.length ≤ i ∧ All2 (IpAt H') ys (((os.take i).filter fun o => isNo sc o.2 .truth).map fun _ => (x, Is.options)))
        ⟨same_upd nD2, [], upd_same, Nat.zero_le _, trivial⟩ (fun i H' _ ⟨s', _⟩ => sq_tup ((s13.trans s') _ _ hb)) ?_ ?_
      · rintro i u H4 hi4 ⟨s4, ys, hD2, yl, al2⟩
        obtain ⟨o, ho, c, y, rfl, hc, hy⟩ := al.get hi4
        have hi2 := (List.getElem?_eq_some_iff.mp ho).1
        have s14 := s13.trans s4
        refine ⟨c, _, rfl, sq_tup (s14 _ _ hc), rfl, _, _, rfl, _, _, rfl, rfl, rfl, ?_⟩
        refine ⟨_, rfl, _, rfl, q, sc, o.2, y, .truth, rfl, hs.same s14, hy.tm (tm_same s14), fun e eo => ht e ?_, fun H5 s5 => ⟨_, rfl, ?_⟩⟩
        · show e ∈ os.filterMap (·.2)
          exact List.mem_filterMap.mpr ⟨o, List.mem_of_getElem? ho, eo⟩
        · have hD5 := s5 _ _ hD2
          rw [take_snoc ho, List.filter_append, List.map_append]
          refine ite2 (fun c => ?_) (fun c => ?_)
          · refine ⟨_, rfl, le_line (by simp), fun t H6 _ s6 h6 => ⟨ys, s6 _ _ hD5, lt_line (by omega), ?_⟩⟩
            have s56 := s5.trans s6
            have hD6 := s6 _ _ hD5
            refine ⟨same_but (s4.trans s56) but_upd nD2, _, upd_same, by rw [List.length_append, List.length_singleton]; omega, ?_⟩
            rw [List.filter_cons, if_pos c]
            exact All2.snoc (al2.imp fun _ _ z => (z.tm (tm_same s56)).tm (tm_lst but_upd hD6)) ⟨t, rfl, tm_lst but_upd hD6 _ _ h6⟩
          · rw [List.filter_cons, if_neg c]
            refine ⟨s4.trans s5, ys, hD5, by omega, ?_⟩
            rw [show ([] : List (Str × Option Ex)).filter (fun o => isNo sc o.2 .truth) = [] from rfl, List.map_nil, List.append_nil]
            exact al2.imp fun _ _ z => z.tm (tm_same s5)
      · rintro H4 ⟨s4, ys, hD2, yl, al2⟩
        rw [et] at al2
        have hl4 := s4 _ _ hl3
        refine ⟨l, D2, _, _, rfl, rfl, hl4, hD2, le_line (by simp; omega), fun H5 b5 h5 => ?_⟩
        have s5 : Same H H5 := same_but (s13.trans s4) b5 nl
        refine ⟨_, rfl, k l H5 s5 nl ⟨_, h5, al2.imp fun _ _ z => z.tm (tm_lst b5 hl4)⟩ ?_⟩
        have := al2.len
        simp only [qIss]
        omega
abbrev s_field_issues : Stmt := top 21
theorem sc_field_issues : FnScope ["field", "scope", "name", "found", "kind"] ["field", "scope"] (defScope s_field_issues) := ⟨rfl, rfl, rfl, by decide +kernel, rfl, by decide +kernel, by decide +kernel⟩
theorem ok_field_issues {n : Nat} {f : Addr} {fd : FuncData} (T : Txt K mg w cSc cSv aW aP aN aO aA) (F : Fun K "field_issues" "field_issues" s_field_issues f fd)
    (G_is_no : Has P w K mg base "is_no" (2 * n + 1) ["scope", "expression", "kind"] (spIsNo cSc n)) (G_question_issues : Has P w K mg base "question_issues" (2 * n + 2) ["name", "kind", "scope"] (spQIss cSc n))
    (G_Scope_kind : HasM P w K mg base cSc "kind" (2 * n) ["self", "expression"] (spKind cSc n)) : FnOk P w K mg base CX0 (2 * n + 3) f fd ["field", "scope"] (spFIss cSc n) := by
  refine F.ok sc_field_issues (fun vs H Q E h => ?_) (fun cdv A outer s H vs Q E hr h => ?_)
  · obtain ⟨x, k, v, q, rfl, _⟩ := h
    rfl
  obtain ⟨g, v, q, sc, rfl, hf, hs, ht, k⟩ := h
  obtain ⟨a, z, x, y, r, rfl, ha, hx, hb⟩ := hf.view
  refine ⟨_, (pss_cons (ps_set (i := 2) sc_field_issues.nd rfl (Or.inl rfl) (pe_ix (r := rIxT K) ix_tup (pv 0) pe_int (fun _ _ => rfl)))
      (pss_cons (ps_set (i := 3) sc_field_issues.nd rfl (Or.inl rfl) (pe_ifExp (pt_val (pe_callH G_is_no (hr.mono (by omega)) (by rfl) (pa_cons (pv 1) (pa_cons (pe_ix (r := rIxT K) ix_tup (pv 0) pe_int (fun _ _ => rfl)) (pa_cons pe_str pa_nil))))) (pe_lstN (pa_cons (pe_tupN (pa_cons (pv 2) (pa_cons pe_str pa_nil))) pa_nil)) (pe_lstN pa_nil)))
      (pss_cons (ps_if (pt_cmpR op_eq (pe_ix (r := rIxT K) ix_tup (pv 0) pe_int (fun _ _ => rfl)) pe_str (nomark _))
        (pss_one (ps_ret (pe_op op_catN (pv 3) (pe_callH G_question_issues (hr.mono (by omega)) (by rfl) (pa_cons (pv 2) (pa_cons (pe_ix (r := rIxT K) ix_tup (pv 0) pe_int (fun _ _ => rfl)) (pa_cons (pv 1) pa_nil)))))))
        pss_nil)
      (pss_cons (ps_set (i := 4) sc_field_issues.nd rfl (Or.inl rfl) (pe_methH (pv 1) T.cl_Scope G_Scope_kind (hr.mono (by omega)) (pa_cons (pe_ix (r := rIxT K) ix_tup (pv 0) pe_int (fun _ _ => rfl)) pa_nil)))
      (pss_cons (ps_if (PW.pt (pw_or (PW.pt (pw_and (pt_cmpR op_eq (pe_ix (r := rIxT K) ix_tup (pv 0) pe_int (fun _ _ => rfl)) pe_str (nomark _)) (pw_and1 (pt_cmpR (r := rIn K true) op_notIn_seq (pv 4) (pe_glob (v := .ref aP) (by rfl) T.mP rfl) (by rfl))))) (pw_or1 (PW.pt (pw_and (pt_cmpR op_eq (pe_ix (r := rIxT K) ix_tup (pv 0) pe_int (fun _ _ => rfl)) pe_str (nomark _)) (pw_and1 (pt_cmpR op_ne (pv 4) pe_str (nomark _))))))))
        (pss_one (ps_expr (pe_bm PySem.F.plainAttrs_list PySem.F.slot_list_append PySem.F.type_list_append mt_appendN (pv 3) (pa_cons (pe_tupN (pa_cons (pv 2) (pa_cons (pe_ix (r := rIxT K) ix_tup (pv 0) pe_int (fun _ _ => rfl)) pa_nil))) pa_nil))))
        pss_nil)
      (pss_one (ps_ret (pv 3)))))))), ?_⟩
  refine ⟨_, rfl, a, _, 1, _, rfl, rfl, sq_tup ha, at1, ?_⟩
  have hc : ∀ e, g.cond = some e → e.ht < n := fun e ec => ht e (by unfold exprsM; rw [ec]; simp)
  have hbe : ∀ e ∈ bExprs g.body, e.ht < n := fun e eb => ht e (by unfold exprsM; exact List.mem_append_right _ eb)
  refine ⟨_, rfl, _, rfl, a, _, 2, _, rfl, rfl, sq_tup ha, at2, q, sc, g.cond, x, .truth, rfl, hs, hx, hc, fun H1 s1 => ⟨_, rfl, ?_⟩⟩
  -- behind the condition
  have tail : ∀ (l : Addr) (vs : List V) (H2 : Hp), Same H H2 → H l = none → H2 l = some (.lst vs) → All2 (IpAt H2) vs (if isNo sc g.cond .truth = true then [(g.name, Is.condition)] else []) → vs.length ≤ 1 →
      tSeq (tIfS (tTest (tOp rEq (tOp (rIxT K) (tVar 0) (tC (.int 0))) (tC (.str "question")))) (tRet (tOp uCat (tVar 3) (tCall (spQIss cSc n) [] E0 (tCons (tVar 2) (tCons (tOp (rIxT K) (tVar 0) (tC (.int 3))) (tCons (tVar 1) tNil)))))) tNext)
        (tSeq (tAsg (tMeth cSc "kind" (spKind cSc n) [] E0 (tVar 1) (tCons (tOp (rIxT K) (tVar 0) (tC (.int 3))) tNil)) (gName 4))
        (tSeq (tIfS (tOr (tAnd (tTest (tOp rEq (tOp (rIxT K) (tVar 0) (tC (.int 0))) (tC (.str "formula")))) (tTest (tOp (rIn K true) (tVar 4) (tC (.ref aP))))) (tAnd (tTest (tOp rEq (tOp (rIxT K) (tVar 0) (tC (.int 0))) (tC (.str "rule")))) (tTest (tOp rNe (tVar 4) (tC (.str "truth"))))))
          (tDrop (tBM K "list" uAppend (tVar 3) (tCons (uTup (tCons (tVar 2) (tCons (tOp (rIxT K) (tVar 0) (tC (.int 0))) tNil))) tNil))) tNext) (tRet (tVar 3))))
        { nx := fun _ H' => Q .non H', rt := Q } [some (.ref a), some (.ref q), some (.str g.name), some (.ref l), none] H2 := by
    intro l vs H2 s2 fl h2 al one
    have ha2 := sq_tup (K := K) (s2 _ _ ha)
    have hlen := al.len
    -- a formula, a rule: the last test
    have last : ∀ (e : Ex) (i : Is) (bad : Bool), z = i.z → z ≠ "question" → ExAt H2 e y → e.ht < n → bIss sc g.name g.body = (if bad = true then [(g.name, i)] else []) →
        (∀ (H3 : Hp) (Q' : Bool → Hp → Prop), (K = K → SqT K H3 a (.str z :: .str g.name :: x :: y :: r)) → Q' bad H3 →
          tOr (tAnd (tTest (tOp rEq (tOp (rIxT K) (tVar 0) (tC (.int 0))) (tC (.str "formula")))) (tTest (tOp (rIn K true) (tVar 4) (tC (.ref aP))))) (tAnd (tTest (tOp rEq (tOp (rIxT K) (tVar 0) (tC (.int 0))) (tC (.str "rule")))) (tTest (tOp rNe (tVar 4) (tC (.str "truth")))))
            [some (.ref a), some (.ref q), some (.str g.name), some (.ref l), some (oV (kindM sc e))] H3 Q') →
        tSeq (tIfS (tTest (tOp rEq (tOp (rIxT K) (tVar 0) (tC (.int 0))) (tC (.str "question")))) (tRet (tOp uCat (tVar 3) (tCall (spQIss cSc n) [] E0 (tCons (tVar 2) (tCons (tOp (rIxT K) (tVar 0) (tC (.int 3))) (tCons (tVar 1) tNil)))))) tNext)
          (tSeq (tAsg (tMeth cSc "kind" (spKind cSc n) [] E0 (tVar 1) (tCons (tOp (rIxT K) (tVar 0) (tC (.int 3))) tNil)) (gName 4))
          (tSeq (tIfS (tOr (tAnd (tTest (tOp rEq (tOp (rIxT K) (tVar 0) (tC (.int 0))) (tC (.str "formula")))) (tTest (tOp (rIn K true) (tVar 4) (tC (.ref aP))))) (tAnd (tTest (tOp rEq (tOp (rIxT K) (tVar 0) (tC (.int 0))) (tC (.str "rule")))) (tTest (tOp rNe (tVar 4) (tC (.str "truth"))))))
            (tDrop (tBM K "list" uAppend (tVar 3) (tCons (uTup (tCons (tVar 2) (tCons (tOp (rIxT K) (tVar 0) (tC (.int 0))) tNil))) tNil))) tNext) (tRet (tVar 3))))
          { nx := fun _ H' => Q .non H', rt := Q } [some (.ref a), some (.ref q), some (.str g.name), some (.ref l), none] H2 := by
      intro e i bad ez nq he hte eb test
      obtain ⟨dx, n1, o1, m1, hp, _⟩ := id (hs.same s2)
      refine ⟨_, rfl, a, _, 0, _, rfl, rfl, ha2, at0, rfl, _, rfl, it_n (decide_eq_false fun w => nq (by injection w)) ?_⟩
      refine ⟨_, rfl, q, dx, _, rfl, hp, kind_no _ _ _ _, _, rfl, a, _, 3, _, rfl, rfl, ha2, at3, q, e, y, sc, rfl, hs.same s2, he, hte, fun H3 s3 => ?_⟩
      have ha3 := sq_tup (K := K) ((s2.trans s3) _ _ ha)
      have h3 := s3 _ _ h2
      refine test H3 _ (fun _ => ha3) ?_
      cases bad with
      | false =>
        refine it_n rfl ?_
        have eF : fieldIss sc g = (if isNo sc g.cond .truth = true then [(g.name, Is.condition)] else []) := by
          unfold fieldIss
          rw [eb]
          simp
        refine ⟨_, rfl, k l H3 (s2.trans s3) fl ⟨vs, h3, ?_⟩ ?_⟩
        · rw [eF]
          exact al.imp fun _ _ z => z.tm (tm_same s3)
        · rw [eF, ← hlen]
          omega
      | true =>
        refine it_y rfl ?_
        have eF : fieldIss sc g = (if isNo sc g.cond .truth = true then [(g.name, Is.condition)] else []) ++ [(g.name, i)] := by
          unfold fieldIss
          rw [eb]
          rfl
        refine ⟨_, rfl, .inl ⟨rfl, _, SqL.of h3⟩, _, rfl, _, rfl, a, _, 0, _, rfl, rfl, ha3, at0, le_line (by simp), fun t H4 _ s4 h4 => ?_⟩
        have hl4 := s4 _ _ h3
        refine ⟨l, _, _, rfl, rfl, hl4, lt_line (by omega), fun H5 b5 h5 => ?_⟩
        have s5 : Same H H5 := same_but ((s2.trans s3).trans s4) b5 fl
        refine ⟨_, rfl, k l H5 s5 fl ⟨_, h5, ?_⟩ ?_⟩
        · rw [eF]
          exact All2.snoc (al.imp fun _ _ w => (w.tm (tm_same (s3.trans s4))).tm (tm_lst b5 hl4)) ⟨t, rfl, by rw [← ez]; exact tm_lst b5 hl4 _ _ h4⟩
        · rw [eF, List.length_append, ← hlen]
          simp only [List.length_singleton]
          omega
    cases hbd : g.body with
    | q q0 r0 =>
      rw [hbd] at hb hbe
      obtain ⟨rfl, hq⟩ := hb
      refine ⟨_, rfl, a, _, 0, _, rfl, rfl, ha2, at0, rfl, _, rfl, it_y (by decide +kernel) ?_⟩
      refine ⟨_, rfl, _, rfl, _, rfl, a, _, 3, _, rfl, rfl, ha2, at3, _, rfl, g.name, q0, y, q, sc, rfl, hq.tm (tm_same s2), hs.same s2, hbe, fun l2 H3 s3 nl2 ⟨ws, h3, al2⟩ few => ?_⟩
      have hl3 := s3 _ _ h2
      have e2 := al2.len
      refine ⟨l, l2, vs, ws, rfl, rfl, hl3, h3, le_line (by omega), fun p H4 np s4 h4 => ?_⟩
      have eF : fieldIss sc g = (if isNo sc g.cond .truth = true then [(g.name, Is.condition)] else []) ++ qIss sc g.name q0 := by
        unfold fieldIss
        rw [hbd]
        rfl
      refine k p H4 ((s2.trans s3).trans s4) ((s2.trans s3).free np) ⟨_, h4, ?_⟩ ?_
      · rw [eF]
        exact (al.imp fun _ _ w => w.tm (tm_same (s3.trans s4))).app (al2.imp fun _ _ w => w.tm (tm_same s4))
      · rw [eF, List.length_append, ← hlen]
        omega
    | fm e =>
      rw [hbd] at hb hbe
      obtain ⟨rfl, he⟩ := hb
      refine last e .formula (!(kindM sc e).any Kd.plain) rfl (by decide +kernel) (he.tm (tm_same s2)) (hbe e (by simp [bExprs])) ?_ ?_
      · rw [hbd]
        simp only [bIss]
        cases (kindM sc e).any Kd.plain <;> rfl
      · intro H3 Q' h3 fin
        refine ⟨_, rfl, a, _, 0, _, rfl, rfl, h3 rfl, at0, rfl, _, rfl, it_y (by decide +kernel) ?_⟩
        refine ⟨_, rfl, aP, _, rfl, .inr (T.qP _), flat_oV _, rfl, _, rfl, ?_⟩
        have e1 : inV (oV (kindM sc e)) [.str "truth", .str "number", .str "option"] = (kindM sc e).any Kd.plain := by
          rw [inV_plain]
          cases kindM sc e <;> rfl
        refine it_c (d := !(kindM sc e).any Kd.plain) (by show (!inV _ _) = _; rw [e1]) ?_
        cases hv : (kindM sc e).any Kd.plain with
        | false =>
          rw [hv] at fin
          exact it_y rfl fin
        | true =>
          rw [hv] at fin
          refine it_n rfl ?_
          refine ⟨_, rfl, a, _, 0, _, rfl, rfl, h3 rfl, at0, rfl, _, rfl, it_n (by decide +kernel) fin⟩
    | rl e b =>
      rw [hbd] at hb hbe
      obtain ⟨rfl, he⟩ := hb
      refine last e .rule (!decide (kindM sc e = some .truth)) rfl (by decide +kernel) (he.tm (tm_same s2)) (hbe e (by simp [bExprs])) ?_ ?_
      · rw [hbd]
        simp only [bIss]
        by_cases c : kindM sc e = some .truth <;> simp [c]
      · intro H3 Q' h3 fin
        refine ⟨_, rfl, a, _, 0, _, rfl, rfl, h3 rfl, at0, rfl, _, rfl, it_n (by decide +kernel) ?_⟩
        refine it_n rfl ?_
        refine ⟨_, rfl, a, _, 0, _, rfl, rfl, h3 rfl, at0, rfl, _, rfl, it_y (by decide +kernel) ?_⟩
        refine ⟨_, rfl, scal_oV (kindM sc e) (some .truth), _, rfl, ?_⟩
        have e1 : (!decide (oV (kindM sc e) = oV (some .truth))) = !decide (kindM sc e = some .truth) := by rw [dec_oV]
        have fin2 : Q' (!decide (oV (kindM sc e) = oV (some .truth))) H3 := by rw [e1]; exact fin
        exact fin2
  cases hn : isNo sc g.cond .truth with
  | true =>
    rw [hn] at tail
    refine it_y rfl ?_
    refine ⟨_, rfl, le_line (by simp), fun t H2 _ s2 h2 => ⟨le_line (by simp), fun l H3 nl s3 h3 => ?_⟩⟩
    exact tail l _ H3 ((s1.trans s2).trans s3) ((s1.trans s2).free nl) h3 ⟨⟨t, rfl, s3 _ _ h2⟩, trivial⟩ (by simp)
  | false =>
    rw [hn] at tail
    refine it_n rfl ?_
    refine ⟨Nat.zero_le _, fun l H3 nl s3 h3 => ?_⟩
    exact tail l _ H3 (s1.trans s3) (s1.free nl) h3 trivial (Nat.zero_le _)
abbrev s_issues : Stmt := top 22
theorem sc_issues : FnScope ["form", "found", "section", "field", "scope"] ["form"] (defScope s_issues) := ⟨rfl, rfl, rfl, by decide +kernel, rfl, by decide +kernel, by decide +kernel⟩
theorem ok_issues {n : Nat} {f : Addr} {fd : FuncData} (T : Txt K mg w cSc cSv aW aP aN aO aA) (F : Fun K "issues" "issues" s_issues f fd)
    (G_is_no : Has P w K mg base "is_no" (2 * n + 1) ["scope", "expression", "kind"] (spIsNo cSc n)) (G_field_issues : Has P w K mg base "field_issues" (2 * n + 3) ["field", "scope"] (spFIss cSc n))
    (G_twice : Has P w K mg base "twice" 1 ["form"] spTwice) (G_walk : Has P w K mg base "walk" (2 * n + 4) ["form"] (spWalk cSc n)) : FnOk P w K mg base CX0 (2 * n + 5) f fd ["form"] (spIssues n) := by
  refine F.ok sc_issues (fun vs H Q E h => ?_) (fun cdv A outer s H vs Q E hr h => ?_)
  · obtain ⟨x, k, rfl, _⟩ := h
    rfl
  obtain ⟨F, v, rfl, hF, hht, hsz, k⟩ := h
  refine ⟨_, (pss_cons (ps_set (i := 1) sc_issues.nd rfl (Or.inl rfl) (pe_callH G_twice (hr.mono (by omega)) (by rfl) (pa_cons (pv 0) pa_nil)))
      (pss_cons (ps_for PassesOwn.never rfl (pi_list (pe_callH G_walk (hr.mono (by omega)) (by rfl) (pa_cons (pv 0) pa_nil))) (pg_tup rfl (pgs_cons (pg_name (i := 2) sc_issues.nd rfl (Or.inl rfl) (hf := Or.inl rfl)) (pgs_cons (pg_name (i := 3) sc_issues.nd rfl (Or.inl rfl) (hf := Or.inl rfl)) (pgs_cons (pg_name (i := 4) sc_issues.nd rfl (Or.inl rfl) (hf := Or.inl rfl)) pgs_nil))))
        (pss_one (ps_if (pt_cmp (pc_notN (pv 3)))
          (pss_one (ps_expr (pe_bm PySem.F.plainAttrs_list PySem.F.slot_list_extend PySem.F.type_list_extend mt_extendN (pv 1) (pa_cons (pe_callH G_field_issues (hr.mono (by omega)) (by rfl) (pa_cons (pv 3) (pa_cons (pv 4) pa_nil))) pa_nil))))
          (pss_one (ps_if (PW.pt (pw_and (pt_cmp (pc_notN (pv 2))) (pw_and1 (pt_val (pe_callH G_is_no (hr.mono (by omega)) (by rfl) (pa_cons (pv 4) (pa_cons (pe_ix (r := rIxT K) ix_tup (pv 2) pe_int (fun _ _ => rfl)) (pa_cons pe_str pa_nil))))))))
            (pss_one (ps_expr (pe_bm PySem.F.plainAttrs_list PySem.F.slot_list_append PySem.F.type_list_append mt_appendN (pv 1) (pa_cons (pe_tupN (pa_cons (pe_ix (r := rIxT K) ix_tup (pv 2) pe_int (fun _ _ => rfl)) (pa_cons pe_str pa_nil))) pa_nil))))
            pss_nil)))))
      (pss_one (ps_ret (pv 1))))), ?_⟩
  refine ⟨_, rfl, F, v, rfl, hF, hsz, fun l H1 nl s1 ⟨tvs, h1, tal⟩ => ?_⟩
  have tl := twiceM_len (allNames F)
  rw [allNames_len] at tl
  have te := tal.len
  refine ⟨_, rfl, F, v, rfl, hF.tm (tm_same s1), hht, hsz, fun wl ws H2 s2 nwl h2 wal => ⟨wl, rfl, ⟨_, SqL.of h2⟩, ?_⟩⟩
  have h12 := s2 _ _ h1
  have nwl' : wl ≠ l := fun e => by rw [e, h1] at nwl; cases nwl
  have wlen := wal.len
  rw [places_len] at wlen
  refine for_list (K := K) (a := wl) (xs := ws) (fun i σ H' => ∃ u2 u3 u4, σ = [some v, some (.ref l), u2, u3, u4] ∧ Same H H' ∧ But l H2 H' ∧ ∃ vs, H' l = some (.lst vs) ∧ All2 (IpAt H') vs (twiceM (allNames F) ++ ((placesM sv0 F).take i).flatMap plIss) ∧ vs.length ≤ 50 + 7 * i)
    ⟨none, none, none, rfl, s1.trans s2, But.of_same (Same.refl _), tvs, h12, by simpa using tal.imp fun _ _ z => z.tm (tm_same s2), by omega⟩ (fun i σ H' _ ⟨_, _, _, _, _, b', _⟩ => SqL.of (b' _ _ nwl' h2)) ?_ ?_
  · rintro i x σ H3 hi ⟨u2, u3, u4, rfl, s3, b3, vs, h3, al, few⟩
    obtain ⟨pl, hpl, hx⟩ := wal.get hi
    obtain ⟨m1, m2⟩ := places_mem (List.mem_of_getElem? hpl)
    have hi2 := (List.getElem?_eq_some_iff.mp hi).1
    have hx3 := hx.rk (rk_lst b3 h12) (tm_lst b3 h12)
    obtain ⟨so, fo, sc⟩ := pl
    obtain ⟨t, x1, y1, q, rfl, ht, hso, hfo, hsc⟩ := hx3
    have hsc := hsc.at
    refine ⟨t, _, rfl, sq_tup ht, rfl, _, _, rfl, _, _, rfl, _, _, rfl, rfl, ?_⟩
    have next : ∀ (H4 : Hp) (vs' : List V), Same H H4 → But l H2 H4 → H4 l = some (.lst (vs ++ vs')) → All2 (IpAt H4) vs (twiceM (allNames F) ++ ((placesM sv0 F).take i).flatMap plIss) → All2 (IpAt H4) vs' (plIss (so, fo, sc)) → vs'.length ≤ 7 →
        ∃ u2 u3 u4, [some v, some (V.ref l), some x1, some y1, some (V.ref q)] = [some v, some (.ref l), u2, u3, u4] ∧ Same H H4 ∧ But l H2 H4 ∧ ∃ vs, H4 l = some (.lst vs) ∧ All2 (IpAt H4) vs (twiceM (allNames F) ++ ((placesM sv0 F).take (i + 1)).flatMap plIss) ∧ vs.length ≤ 50 + 7 * (i + 1) := by
      intro H4 vs' s4 b4 h4 al4 al5 few'
      refine ⟨_, _, _, rfl, s4, b4, _, h4, ?_, by rw [List.length_append]; omega⟩
      rw [take_snoc hpl, List.flatMap_append, ← List.append_assoc]
      refine al4.app ?_
      simpa using al5
    cases fo with
    | some fld =>
      have hf : FldAt H3 y1 fld := hfo
      obtain ⟨fa2, fz, fx, fy, fr, rfl, _⟩ := hf.view
      obtain ⟨sec, hsec, hfs⟩ := m1 fld rfl
      refine ⟨_, rfl, _, rfl, it_y rfl ?_⟩
      refine ⟨_, rfl, .inl ⟨rfl, _, SqL.of h3⟩, _, rfl, _, rfl, fld, _, q, sc, rfl, hf, hsc, (hht sec hsec).2 fld hfs, fun l4 H4 s4 nl4 ⟨ws4, h4, al4⟩ few4 => ?_⟩
      have hl4 := s4 _ _ h3
      have e4 := al4.len
      refine ⟨l, l4, _, _, rfl, rfl, hl4, h4, le_line (by omega), fun H5 b5 h5 => ?_⟩
      have t5 := tm_lst b5 hl4
      exact next H5 ws4 (same_but (s3.trans s4) b5 nl) ((b3.trans (But.of_same s4)).trans b5) h5 (al.imp fun _ _ z => (z.tm (tm_same s4)).tm t5) (al4.imp fun _ _ z => z.tm t5) (by omega)
    | none =>
      have hy : y1 = .non := hfo
      subst hy
      refine ⟨_, rfl, _, rfl, it_n rfl ?_⟩
      cases so with
      | none =>
        have hx1 : x1 = .non := hso
        subst hx1
        refine ⟨_, rfl, _, rfl, it_n rfl (it_n rfl ?_)⟩
        exact next H3 [] s3 b3 (by rw [List.append_nil]; exact h3) al trivial (Nat.zero_le _)
      | some sec =>
        have hs1 : SctAt H3 x1 sec := hso
        obtain ⟨ta, cx, fb, fvs2, rfl, hta, hcx, hfb, fal2⟩ := hs1
        refine ⟨_, rfl, _, rfl, it_y rfl ?_⟩
        refine ⟨_, rfl, _, rfl, ta, _, 1, _, rfl, rfl, sq_tup hta, at1, q, sc, sec.cond, cx, .truth, rfl, hsc, hcx, (hht sec (m2 sec rfl)).1, fun H4 s4 => ⟨_, rfl, ?_⟩⟩
        have hl4 := s4 _ _ h3
        have pe : plIss (some sec, none, sc) = if isNo sc sec.cond .truth = true then [(sec.name, Is.condition)] else [] := rfl
        refine ite2 (fun c => ?_) (fun c => ?_)
        · refine ⟨_, rfl, .inl ⟨rfl, _, SqL.of hl4⟩, _, rfl, ta, _, 0, _, rfl, rfl, sq_tup (s4 _ _ hta), at0, le_line (by simp), fun t5 H5 _ s5 h5 => ?_⟩
          have hl5 := s5 _ _ hl4
          refine ⟨l, _, _, rfl, rfl, hl5, lt_line (by omega), fun H6 b6 h6 => ?_⟩
          have t6 := tm_lst b6 hl5
          refine next H6 [.ref t5] (same_but ((s3.trans s4).trans s5) b6 nl) ((b3.trans (But.of_same (s4.trans s5))).trans b6) h6 (al.imp fun _ _ z => (z.tm (tm_same (s4.trans s5))).tm t6) ?_ (by simp)
          rw [pe, if_pos c]
          exact ⟨⟨t5, rfl, t6 _ _ h5⟩, trivial⟩
        · refine next H4 [] (s3.trans s4) (b3.trans (But.of_same s4)) (by rw [List.append_nil]; exact hl4) (al.imp fun _ _ z => z.tm (tm_same s4)) ?_ (Nat.zero_le _)
          rw [pe, if_neg c]
          trivial
  · rintro σ H3 ⟨u2, u3, u4, rfl, s3, b3, vs, h3, al, few⟩
    have et : (placesM sv0 F).take ws.length = placesM sv0 F := List.take_of_length_le (by rw [places_len]; omega)
    rw [et] at al
    have al : All2 (IpAt H3) vs (issuesM F) := al
    have e3 := al.len
    exact ⟨_, rfl, k l H3 s3 nl ⟨vs, h3, al⟩ (by omega)⟩
end
end FF
/-! The generator: cells, digits, draws. -/
namespace FF
open PySem L2
def zsV (ds : List Int) : List V := ds.map V.int
def BxAt (H : Hp) (p : Addr) : Prop := ∃ (q : Addr) (ds : List Int) (n : Nat), H p = some (.lst [.ref q, .int (n : Nat)]) ∧ H q = some (.lst (zsV ds)) ∧ ds ≠ []
theorem BxAt.same {H H' : Hp} {p : Addr} (s : Same H H') (h : BxAt H p) : BxAt H' p := by
  obtain ⟨q, ds, n, h1, h2, h3⟩ := h
  exact ⟨q, ds, n, s _ _ h1, s _ _ h2, h3⟩
theorem BxAt.tm {H H' : Hp} {p : Addr} (h : BxAt H p) (b : But p H H') : Tm H H' := by
  obtain ⟨q, ds, n, h1, h2⟩ := h
  exact tm_lst b h1
theorem BxAt.but {H H' : Hp} {p l : Addr} (h : BxAt H p) (b : But l H H') (n1 : ∀ q n, H l ≠ some (.lst [.ref q, .int n])) (n2 : ∀ ds, ds ≠ [] → H l ≠ some (.lst (zsV ds))) : BxAt H' p := by
  obtain ⟨q, ds, n, h1, h2, h3⟩ := h
  exact ⟨q, ds, n, b _ _ (fun e => n1 _ _ (e ▸ h1)) h1, b _ _ (fun e => n2 _ h3 (e ▸ h2)) h2, h3⟩
def spCell (K : PySem.W.Frag) : Sp := fun vs H Q _ => ∃ (a : Addr) (ds : List Int) (i : Int), vs = [.ref a, .int i] ∧ 0 ≤ i ∧ SqL K H a (zsV ds) ∧ ∀ n : Int, Q (.int n) H
def spDigits (K : PySem.W.Frag) : Sp := fun vs H Q _ => ∃ (a : Addr) (ds : List Int), vs = [.ref a, .int 0, .int 63] ∧ SqL K H a (zsV ds) ∧ ∀ l zs H', H l = none → Same H H' → H' l = some (.lst (zsV zs)) → zs ≠ [] → Q (.ref l) H'
def spDraw : Sp := fun vs H Q _ => ∃ (p : Addr) (m : Int), vs = [.ref p, .int m] ∧ 0 < m ∧ BxAt H p ∧ ∀ (n : Nat) H', (n : Int) < m → But p H H' → BxAt H' p → Q (.int (n : Nat)) H'
def spPick : Sp := fun vs H Q _ => ∃ (p l : Addr) (zs : List Str), vs = [.ref p, .ref l] ∧ BxAt H p ∧ H l = some (.lst (zs.map V.str)) ∧ zs ≠ [] ∧ zs.length ≤ 1000 ∧ ∀ z H', z ∈ zs → But p H H' → BxAt H' p → Q (.str z) H'
theorem bx_ne {H : Hp} {p l : Addr} {zs : List Str} (h : BxAt H p) (hl : H l = some (.lst (zs.map V.str))) : l ≠ p := by
  rintro rfl
  obtain ⟨q, ds, n, h1, h2⟩ := h
  rw [h1] at hl
  cases zs with
  | nil => cases hl
  | cons z zs => cases hl
section
variable {P : Program} {w : World} {K : PySem.W.Frag} {mg : Str → Option Value} {base : Heap} {cSc cSv aW aP aN aO aA : Addr}
abbrev s_law_cell : Stmt := top 24
theorem sc_law_cell : FnScope ["_law_script", "_law_k"] ["_law_script", "_law_k"] (defScope s_law_cell) := ⟨rfl, rfl, rfl, by decide +kernel, rfl, by decide +kernel, by decide +kernel⟩
theorem ok_cell {f : Addr} {fd : FuncData} (T : Txt K mg w cSc cSv aW aP aN aO aA) (F : Fun K "_law_cell" "_law_cell" s_law_cell f fd) : FnOk P w K mg base CX0 1 f fd ["_law_script", "_law_k"] (spCell K) := by
  refine F.ok sc_law_cell (fun vs H Q E h => ?_) (fun cdv A outer s H vs Q E hr h => ?_)
  · obtain ⟨a, ds, i, rfl, _⟩ := h
    rfl
  obtain ⟨a, ds, i, rfl, hi, ha, k⟩ := h
  refine ⟨_, (pss_cons (ps_if (pt_cmpR op_lt (pv 1) (pe_callB call_len_seq (by rfl) T.len (by decide +kernel) (pa_cons (pv 0) pa_nil)) (nomark _))
        (pss_one (ps_ret (pe_ix (r := rIxL K) ix_list (pv 0) (pv 1) (fun _ _ => rfl))))
        pss_nil)
      (pss_one (ps_ret pe_int))), ?_⟩
  obtain ⟨j, rfl⟩ : ∃ j : Nat, i = j := ⟨i.toNat, by omega⟩
  refine ⟨_, rfl, _, rfl, a, _, rfl, .inl ha, _, _, rfl, rfl, _, rfl, ite2 (fun c => ?_) (fun c => ?_)⟩
  · have hj : j < ds.length := by
      have := of_decide_eq_true c
      simp only [zsV, List.length_map] at this
      omega
    exact ⟨_, rfl, _, rfl, a, _, j, _, rfl, rfl, ha, atI_nat (by rw [zsV, List.getElem?_map, List.getElem?_eq_getElem hj]; rfl), k _⟩
  · exact k _
abbrev s_law_digits : Stmt := top 25
theorem sc_law_digits : FnScope ["_law_script", "_law_first", "_law_last", "_law_digits_here", "_law_k", "_law_cell_here", "_law_place", "_law_seed"] ["_law_script", "_law_first", "_law_last"] (defScope s_law_digits) := ⟨rfl, rfl, rfl, by decide +kernel, rfl, by decide +kernel, by decide +kernel⟩
theorem ok_digits {f : Addr} {fd : FuncData} (T : Txt K mg w cSc cSv aW aP aN aO aA) (F : Fun K "_law_digits" "_law_digits" s_law_digits f fd) (G_law_cell : Has P w K mg base "_law_cell" 1 ["_law_script", "_law_k"] (spCell K)) :
    FnOk P w K mg base CX0 2 f fd ["_law_script", "_law_first", "_law_last"] (spDigits K) := by
  refine F.ok sc_law_digits (fun vs H Q E h => ?_) (fun cdv A outer s H vs Q E hr h => ?_)
  · obtain ⟨a, ds, rfl, _⟩ := h
    rfl
  obtain ⟨a, ds, rfl, ha, k⟩ := h
  refine ⟨_, (pss_cons (ps_set (i := 3) sc_law_digits.nd rfl (Or.inl rfl) (pe_lstN pa_nil))
      (pss_cons (ps_for PassesOwn.never rfl (pi_range2 (by rfl) T.range (pa_cons (pv 1) (pa_cons (pv 2) pa_nil))) (pg_name (i := 4) sc_law_digits.nd rfl (Or.inl rfl) (hf := Or.inl rfl))
        (pss_cons (ps_set (i := 5) sc_law_digits.nd rfl (Or.inl rfl) (pe_callH G_law_cell (hr.mono (by omega)) (by rfl) (pa_cons (pv 0) (pa_cons (pv 4) pa_nil))))
        (pss_cons (ps_if (pt_cmpR op_lt (pv 5) pe_int (nomark _))
          (pss_one (ps_set (i := 5) sc_law_digits.nd rfl (Or.inl rfl) (pe_op op_sub pe_int (pe_op op_mul pe_int (pv 5)))))
          pss_nil)
        (pss_one (ps_if (pt_cmpR op_ge (pv 5) (pe_op op_pow pe_int pe_int) (nomark _))
          (pss_one (ps_for PassesOwn.never rfl (pi_range1 (by rfl) T.range (pa_cons pe_int pa_nil)) (pg_name (i := 6) sc_law_digits.nd rfl (Or.inl rfl) (hf := Or.inl rfl))
            (pss_one (ps_if (pt_cmpR op_gt (pv 5) pe_int (nomark _))
              (pss_cons (ps_expr (pe_bm PySem.F.plainAttrs_list PySem.F.slot_list_append PySem.F.type_list_append mt_appendN (pv 3) (pa_cons (pe_op op_mod (pe_callTy call_int1 (by rfl) T.int (by decide +kernel) (pa_cons (pv 5) pa_nil)) pe_int) pa_nil)))
              (pss_one (ps_set (i := 5) sc_law_digits.nd rfl (Or.inl rfl) (pe_op op_fdiv (pv 5) pe_int))))
              pss_nil))))
          (pss_cons (ps_set (i := 7) sc_law_digits.nd rfl (Or.inl rfl) (pe_op op_mod (pe_callTy call_int1 (by rfl) T.int (by decide +kernel) (pa_cons (pe_op op_add (pe_op op_add (pe_op op_mul (pv 5) pe_int) (pe_op op_mul (pv 4) pe_int)) pe_int) pa_nil)) pe_int))
          (pss_one (ps_for PassesOwn.never rfl (pi_range1 (by rfl) T.range (pa_cons pe_int pa_nil)) (pg_name (i := 6) sc_law_digits.nd rfl (Or.inl rfl) (hf := Or.inl rfl))
            (pss_cons (ps_set (i := 7) sc_law_digits.nd rfl (Or.inl rfl) (pe_op op_mod (pe_callTy call_int1 (by rfl) T.int (by decide +kernel) (pa_cons (pe_op op_add (pe_op op_add (pe_op op_mul (pv 7) pe_int) (pe_op op_mul pe_int (pv 6))) pe_int) pa_nil)) pe_int))
            (pss_one (ps_expr (pe_bm PySem.F.plainAttrs_list PySem.F.slot_list_append PySem.F.type_list_append mt_appendN (pv 3) (pa_cons (pe_op op_mod (pe_callTy call_int1 (by rfl) T.int (by decide +kernel) (pa_cons (pe_op op_fdiv (pv 7) pe_int) pa_nil)) pe_int) pa_nil)))))))))))))
      (pss_one (ps_ret (pv 3))))), ?_⟩
  refine ⟨Nat.zero_le _, fun l H1 nl s1 h1 => ?_⟩
  refine ⟨_, rfl, _, rfl, 0, 63, rfl, by decide, ?_⟩
  refine for_range (fun i σ H' => ∃ u4 u5 u6 u7 zs, σ = [some (.ref a), some (.int 0), some (.int 63), some (.ref l), u4, u5, u6, u7] ∧ Same H H' ∧ H' l = some (.lst (zsV zs)) ∧ zs.length ≤ 60 * i ∧ (i = 0 ∨ 0 < zs.length))
    ⟨none, none, none, none, [], rfl, s1, h1, Nat.zero_le _, .inl rfl⟩ ?_ ?_
  · rintro i σ H2 hi ⟨u4, u5, u6, u7, zs, rfl, s2, h2, hz, _⟩
    have hi : i < 63 := hi
    refine ⟨_, rfl, _, rfl, a, ds, _, rfl, by omega, s2.seq ha, fun c => ?_⟩
    refine ⟨_, rfl, _, _, rfl, rfl, _, rfl, ite2 (fun _ => ⟨_, rfl, _, _, rfl, rfl, .inl (by omega), _, _, rfl, rfl, ?_⟩) (fun _ => ?_)⟩
    all_goals
      refine ⟨_, rfl, _, _, rfl, rfl, ⟨by decide, by decide, by decide⟩, _, _, rfl, rfl, _, rfl, ite2 (fun big => ?_) (fun _ => ?_)⟩
      · have hbig := Int.lt_of_lt_of_le (show (0 : Int) < 10 ^ Int.toNat 18 by decide) (of_decide_eq_true big)
        refine ⟨60, rfl, by decide, by decide, ?_⟩
        refine for_range (fun j σ H' => ∃ (u6 : Option V) (c : Int) (zs : List Int), σ = [some (.ref a), some (.int 0), some (.int 63), some (.ref l), some (.int (0 + (i : Nat))), some (.int c), u6, u7] ∧ Same H H' ∧ H' l = some (.lst (zsV zs)) ∧ zs.length ≤ 60 * i + j ∧ (0 < zs.length ∨ 0 < c ∧ j = 0))
          ⟨u6, _, zs, rfl, s2, h2, hz, .inr ⟨hbig, rfl⟩⟩ ?_ ?_
        · rintro j σ H3 hj ⟨u6, c, zs, rfl, s3, h3, hz, hp⟩
          have hj : j < 60 := hj
          refine ⟨_, rfl, _, _, rfl, rfl, _, rfl, ite2 (fun _ => ?_) (fun c => ⟨_, _, zs, rfl, s3, h3, by omega, .inl (by
            rcases hp with hp | ⟨hp, _⟩
            · exact hp
            · exact absurd (decide_eq_true hp) c)⟩)⟩
          refine ⟨_, rfl, .inl ⟨rfl, _, SqL.of h3⟩, _, rfl, .inl ⟨_, rfl, _, _, rfl, rfl, (by show (0 : Int) < _; decide), l, _, _, rfl, rfl, h3, lt_line (by simp only [zsV, List.length_map]; omega), fun H4 b4 h4 => ?_⟩⟩
          refine ⟨_, rfl, _, _, rfl, rfl, ⟨by decide, by decide⟩, ?_⟩
          exact ⟨_, _, zs ++ [c % 1000], rfl, same_but s3 b4 nl, by rw [h4]; simp [zsV], by simp; omega, .inl (by simp)⟩
        · rintro σ H3 ⟨u6, c, zs, rfl, s3, h3, hz, hp⟩
          have hz : zs.length ≤ 60 * i + 60 := hz
          have hp : 0 < zs.length ∨ 0 < c ∧ 60 = 0 := hp
          exact ⟨_, _, _, _, zs, rfl, s3, h3, by omega, by omega⟩
      · refine ⟨_, rfl, _, _, rfl, rfl, .inr (by omega), _, rfl, _, _, rfl, rfl, .inr (by omega), _, _, rfl, rfl, _, _, rfl, rfl, .inl ⟨_, rfl, _, _, rfl, rfl, (by show (0 : Int) < _; decide), ?_⟩⟩
        refine ⟨12, rfl, by decide, by decide, ?_⟩
        refine for_range (fun j σ H' => ∃ (u6 : Option V) (d : Int) (u5 : Option V) (zs : List Int), σ = [some (.ref a), some (.int 0), some (.int 63), some (.ref l), some (.int (0 + (i : Nat))), u5, u6, some (.int d)] ∧ Same H H' ∧ H' l = some (.lst (zsV zs)) ∧ zs.length ≤ 60 * i + j ∧ j ≤ zs.length)
          ⟨u6, _, _, zs, rfl, s2, h2, hz, Nat.zero_le _⟩ ?_ ?_
        · rintro j σ H3 hj ⟨u6, d, u5, zs, rfl, s3, h3, hz, hp⟩
          have hj : j < 12 := hj
          refine ⟨_, rfl, _, _, rfl, rfl, .inr (by omega), _, rfl, _, _, rfl, rfl, .inl (by omega), _, _, rfl, rfl, _, _, rfl, rfl, .inl ⟨_, rfl, _, _, rfl, rfl, (by show (0 : Int) < _; decide), ?_⟩⟩
          refine ⟨_, rfl, .inl ⟨rfl, _, SqL.of h3⟩, _, rfl, _, _, rfl, rfl, ⟨by decide, by decide⟩, .inl ⟨_, rfl, _, _, rfl, rfl, (by show (0 : Int) < _; decide), l, _, _, rfl, rfl, h3, lt_line (by simp only [zsV, List.length_map]; omega), fun H4 b4 h4 => ?_⟩⟩
          exact ⟨_, _, _, zs ++ [_], rfl, same_but s3 b4 nl, by rw [h4]; simp [zsV]; rfl, by simp; omega, by simp; omega⟩
        · rintro σ H3 ⟨u6, d, u5, zs, rfl, s3, h3, hz, hp⟩
          have hz : zs.length ≤ 60 * i + 12 := hz
          have hp : 12 ≤ zs.length := hp
          exact ⟨_, _, _, _, zs, rfl, s3, h3, by omega, by omega⟩
  · rintro σ H2 ⟨u4, u5, u6, u7, zs, rfl, s2, h2, hz, hp⟩
    have hp : 63 = 0 ∨ 0 < zs.length := hp
    exact ⟨_, rfl, k l zs _ (nl) s2 h2 (fun e => by subst e; rcases hp with hp | hp <;> exact absurd hp (by decide))⟩
abbrev s_law_draw : Stmt := top 26
theorem sc_law_draw : FnScope ["_law_box", "_law_many", "_law_at"] ["_law_box", "_law_many"] (defScope s_law_draw) := ⟨rfl, rfl, rfl, by decide +kernel, rfl, by decide +kernel, by decide +kernel⟩
theorem ok_draw {f : Addr} {fd : FuncData} (T : Txt K mg w cSc cSv aW aP aN aO aA) (F : Fun K "_law_draw" "_law_draw" s_law_draw f fd) : FnOk P w K mg base CX0 1 f fd ["_law_box", "_law_many"] spDraw := by
  refine F.ok sc_law_draw (fun vs H Q E h => ?_) (fun cdv A outer s H vs Q E hr h => ?_)
  · obtain ⟨p, m, rfl, _⟩ := h
    rfl
  obtain ⟨p, m, rfl, hm, hb, k⟩ := h
  refine ⟨_, (pss_cons (ps_set (i := 2) sc_law_draw.nd rfl (Or.inl rfl) (pe_ix (r := rIxL K) ix_list (pv 0) pe_int (fun _ _ => rfl)))
      (pss_cons (ps_asg (pe_op op_add (pv 2) pe_int) (pg_sub (pv 0) pe_int set_listN))
      (pss_cons (ps_if (pt_cmpR op_lt (pv 2) (pe_callB call_len_seq (by rfl) T.len (by decide +kernel) (pa_cons (pe_ix (r := rIxL K) ix_list (pv 0) pe_int (fun _ _ => rfl)) pa_nil)) (nomark _))
        (pss_one (ps_ret (pe_op op_mod (pe_callTy call_int1 (by rfl) T.int (by decide +kernel) (pa_cons (pe_ix (r := rIxL K) ix_list (pe_ix (r := rIxL K) ix_list (pv 0) pe_int (fun _ _ => rfl)) (pv 2) (fun _ _ => rfl)) pa_nil)) (pv 1))))
        pss_nil)
      (pss_one (ps_ret (pe_op op_mod (pe_callTy call_int1 (by rfl) T.int (by decide +kernel) (pa_cons (pe_op op_add (pe_op op_mul (pv 2) pe_int) pe_int) pa_nil)) (pv 1))))))), ?_⟩
  obtain ⟨q, ds, n, hp, hq, hz⟩ := hb
  have npq : q ≠ p := by
    rintro rfl
    rw [hp] at hq
    cases ds with
    | nil => cases hq
    | cons d ds => cases hq
  refine ⟨_, rfl, p, _, 1, _, rfl, rfl, SqL.of hp, at1, ?_⟩
  refine ⟨_, rfl, _, _, rfl, rfl, _, rfl, p, _, 1, 1, rfl, rfl, hp, rfl, fun H1 b1 h1 => ?_⟩
  have hq1 := b1 _ _ npq hq
  have bx : BxAt H1 p := ⟨q, ds, n + 1, h1, hq1, hz⟩
  refine ⟨_, rfl, _, rfl, p, _, 0, _, rfl, rfl, SqL.of h1, at0, q, _, rfl, .inl (SqL.of hq1), _, _, rfl, rfl, _, rfl, ite2 (fun c => ?_) (fun c => ?_)⟩
  · have hj : n < ds.length := by
      have := of_decide_eq_true c
      simp only [zsV, List.length_map] at this
      omega
    refine ⟨_, rfl, p, _, 0, _, rfl, rfl, SqL.of h1, at0, _, rfl, q, _, n, _, rfl, rfl, SqL.of hq1, atI_nat (by rw [zsV, List.getElem?_map, List.getElem?_eq_getElem hj]; rfl), .inl ⟨_, rfl, _, rfl, _, _, rfl, rfl, hm, ?_⟩⟩
    have e1 := Int.emod_nonneg ds[n] (show m ≠ 0 by omega)
    have e2 := Int.emod_lt_of_pos ds[n] hm
    have := k (ds[n] % m).toNat H1 (by omega) b1 bx
    rw [Int.toNat_of_nonneg e1] at this
    exact this
  · refine ⟨_, rfl, _, _, rfl, rfl, .inr (by omega), _, _, rfl, rfl, .inl ⟨_, rfl, _, rfl, _, _, rfl, rfl, hm, ?_⟩⟩
    have e1 := Int.emod_nonneg ((n : Int) * 7 + 3) (show m ≠ 0 by omega)
    have e2 := Int.emod_lt_of_pos ((n : Int) * 7 + 3) hm
    have := k (((n : Int) * 7 + 3) % m).toNat H1 (by omega) b1 bx
    rw [Int.toNat_of_nonneg e1] at this
    exact this
abbrev s_law_pick : Stmt := top 28
theorem sc_law_pick : FnScope ["_law_box", "_law_rows"] ["_law_box", "_law_rows"] (defScope s_law_pick) := ⟨rfl, rfl, rfl, by decide +kernel, rfl, by decide +kernel, by decide +kernel⟩
theorem ok_pick {f : Addr} {fd : FuncData} (T : Txt K mg w cSc cSv aW aP aN aO aA) (F : Fun K "_law_pick" "_law_pick" s_law_pick f fd) (G_law_draw : Has P w K mg base "_law_draw" 1 ["_law_box", "_law_many"] spDraw) :
    FnOk P w K mg base CX0 2 f fd ["_law_box", "_law_rows"] spPick := by
  refine F.ok sc_law_pick (fun vs H Q E h => ?_) (fun cdv A outer s H vs Q E hr h => ?_)
  · obtain ⟨p, l, zs, rfl, _⟩ := h
    rfl
  obtain ⟨p, l, zs, rfl, hb, hl, nz, hz, k⟩ := h
  refine ⟨_, (pss_one (ps_ret (pe_ix (r := rIxL K) ix_list (pv 1) (pe_op op_mod (pe_callTy call_int1 (by rfl) T.int (by decide +kernel) (pa_cons (pe_callH G_law_draw (hr.mono (by omega)) (by rfl) (pa_cons (pv 0) (pa_cons pe_int pa_nil))) pa_nil)) (pe_callB call_len_seq (by rfl) T.len (by decide +kernel) (pa_cons (pv 1) pa_nil))) (fun _ _ => rfl)))), ?_⟩
  refine ⟨_, rfl, _, rfl, p, 90, rfl, by decide, hb, fun n H1 hn b1 bx1 => ?_⟩
  have hl1 := b1 _ _ (bx_ne hb hl) hl
  have lz : 0 < zs.length := List.length_pos_iff.mpr nz
  have lz2 : (0 : Int) < ((zs.map V.str).length : Nat) := by rw [List.length_map]; omega
  have hlt : n % (zs.map V.str).length < zs.length := by rw [List.length_map]; exact Nat.mod_lt _ lz
  exact .inl ⟨_, rfl, _, rfl, l, _, rfl, .inl (SqL.of hl1), _, _, rfl, rfl, lz2, l, _, ((n % (zs.map V.str).length : Nat) : Int), _, rfl, by rw [Int.natCast_emod], SqL.of hl1, atI_nat (by rw [List.getElem?_map, List.getElem?_eq_getElem hlt]; rfl), k _ _ (List.getElem_mem hlt) b1 bx1⟩
end
end FF
/-! The generator: expressions. -/
namespace FF
open PySem L2
def kvK (es : List (Str × Kd)) : List (Key × V) := es.map fun p => ((.inr p.1 : Key), V.str p.2.z)
def nmK (es : List (Str × Kd)) (k : Kd) : List Str := (es.filter fun p => decide (p.2 = k)).map (·.1)
theorem nmK_mem {es : List (Str × Kd)} {k : Kd} {z : Str} (h : z ∈ nmK es k) : (z, k) ∈ es := by
  obtain ⟨p, hp, rfl⟩ := List.mem_map.mp h
  obtain ⟨h1, h2⟩ := List.mem_filter.mp hp
  have := of_decide_eq_true h2
  subst this
  exact h1
theorem nmK_app (A B : List (Str × Kd)) (k : Kd) : nmK (A ++ B) k = nmK A k ++ nmK B k := by simp [nmK]
theorem nmK_y {p : Str × Kd} {k : Kd} (h : p.2 = k) : nmK [p] k = [p.1] := by simp [nmK, h]
theorem nmK_n {p : Str × Kd} {k : Kd} (h : ¬ p.2 = k) : nmK [p] k = [] := by simp [nmK, h]
theorem nmK_len (es : List (Str × Kd)) (k : Kd) : (nmK es k).length ≤ es.length := by
  rw [nmK, List.length_map]
  exact List.length_filter_le ..
theorem kvK_val : ∀ {es : List (Str × Kd)} {x : Str} {k : Kd}, (es.map (·.1)).Nodup → (x, k) ∈ es → valV (kvK es) (.inr x) = some (.str k.z)
  | p :: es, x, k, nd, h => by
    rcases List.mem_cons.mp h with e | h
    · subst e
      exact valV_pos rfl
    · obtain ⟨n1, n2⟩ := List.nodup_cons.mp nd
      have ne : ¬ (Sum.inr p.1 : Key) = Sum.inr x := fun e => n1 (by cases e; exact List.mem_map.mpr ⟨_, h, rfl⟩)
      show valV (_ :: kvK es) _ = _
      rw [valV_neg ne]
      exact kvK_val n2 h
def Gn (p : Addr) (H H' : Hp) : Prop := But p H H' ∧ BxAt H' p
theorem Gn.s {p : Addr} {H H1 H2 : Hp} (g : Gn p H H1) (s : Same H1 H2) : Gn p H H2 := ⟨g.1.trans (But.of_same s), g.2.same s⟩
theorem Gn.b {p : Addr} {H H1 H2 : Hp} (g : Gn p H H1) (b : But p H1 H2) (x : BxAt H2 p) : Gn p H H2 := ⟨g.1.trans b, x⟩
theorem Gn.lst {p l : Addr} {H H1 H2 : Hp} {xs : List V} (g : Gn p H H1) (nl : H l = none) (hp : BxAt H p) (b : But p H1 H2) (h : H1 l = some (.lst xs)) : H2 l = some (.lst xs) := by
  obtain ⟨q, ds, n, h1, h2⟩ := hp
  exact b _ _ (by rintro rfl; rw [nl] at h1; cases h1) h
def LsAt (H : Hp) (q : Addr) (t : Ts) : Prop := ∃ a b c : Addr, H q = some (.lst [.ref a, .ref b, .ref c, .bl t.r]) ∧ H a = some (.dK (kvK t.N)) ∧ H b = some (.dK (kvK t.O)) ∧ H c = some (.lst (t.S.map V.str)) ∧
  (t.N.map (·.1)).Nodup ∧ (t.O.map (·.1)).Nodup ∧ t.N.length ≤ 100 ∧ t.O.length ≤ 100 ∧ t.S.length ≤ 100
theorem LsAt.but {H H' : Hp} {p q : Addr} {t : Ts} (bx : BxAt H p) (g : But p H H') (h : LsAt H q t) : LsAt H' q t := by
  obtain ⟨a, b, c, hq, ha, hb, hc, r⟩ := h
  have nc := bx_ne bx hc
  obtain ⟨u, ds, n, h1, h2⟩ := bx
  refine ⟨a, b, c, g _ _ ?_ hq, g _ _ ?_ ha, g _ _ ?_ hb, g _ _ nc hc, r⟩
  · rintro rfl; rw [h1] at hq; cases hq
  · rintro rfl; rw [h1] at ha; cases ha
  · rintro rfl; rw [h1] at hb; cases hb
theorem LsAt.same {H H' : Hp} {q : Addr} {t : Ts} (g : Same H H') (h : LsAt H q t) : LsAt H' q t := by
  obtain ⟨a, b, c, hq, ha, hb, hc, r⟩ := h
  exact ⟨a, b, c, g _ _ hq, g _ _ ha, g _ _ hb, g _ _ hc, r⟩
def spNamed : Sp := fun vs H Q _ => ∃ (d : Addr) (es : List (Str × Kd)) (k : Kd), vs = [.ref d, .str k.z] ∧ H d = some (.dK (kvK es)) ∧ (es.map (·.1)).Nodup ∧ es.length ≤ 100 ∧
  ∀ l H', H l = none → Same H H' → H' l = some (.lst ((nmK es k).map V.str)) → Q (.ref l) H'
def spNum (n : Nat) : Sp := fun vs H Q _ => ∃ (p q : Addr) (d : Nat) (t : Ts), vs = [.ref p, .ref q, .int (d : Nat)] ∧ d < n ∧ BxAt H p ∧ LsAt H q t ∧
  ∀ e v H', Ty t .number e → e.ht ≤ 2 * d → Gn p H H' → ExAt H' e v → Q v H'
def spTru (n : Nat) : Sp := fun vs H Q _ => ∃ (p q : Addr) (d : Nat) (t : Ts), vs = [.ref p, .ref q, .int (d : Nat)] ∧ d < n ∧ BxAt H p ∧ LsAt H q t ∧
  ∀ e v H', Ty t .truth e → e.ht ≤ 2 * d + 1 → Gn p H H' → ExAt H' e v → Q v H'
theorem pick_ov : ∀ m : Nat, (m : Int) < 3 → ∃ f : Fn, (f = .sum ∨ f = .least ∨ f = .greatest) ∧ [V.str "sum", V.str "least", V.str "greatest"][m]? = some (.str f.z)
  | 0, _ => ⟨.sum, .inl rfl, rfl⟩
  | 1, _ => ⟨.least, .inr (.inl rfl), rfl⟩
  | 2, _ => ⟨.greatest, .inr (.inr rfl), rfl⟩
  | m + 3, h => by omega
theorem pick_ar : ∀ m : Nat, (m : Int) < 4 → ∃ g : Sg, (g = .add ∨ g = .sub ∨ g = .mul ∨ g = .els) ∧ [V.str "+", V.str "-", V.str "*", V.str "??"][m]? = some (.str g.z)
  | 0, _ => ⟨.add, .inl rfl, rfl⟩
  | 1, _ => ⟨.sub, .inr (.inl rfl), rfl⟩
  | 2, _ => ⟨.mul, .inr (.inr (.inl rfl)), rfl⟩
  | 3, _ => ⟨.els, .inr (.inr (.inr rfl)), rfl⟩
  | m + 4, h => by omega
theorem pick_eq : ∀ m : Nat, (m : Int) < 2 → ∃ g : Sg, (g = .eq ∨ g = .ne) ∧ [V.str "=", V.str "<>"][m]? = some (.str g.z)
  | 0, _ => ⟨.eq, .inl rfl, rfl⟩
  | 1, _ => ⟨.ne, .inr rfl, rfl⟩
  | m + 2, h => by omega
theorem pick_any : ∀ m : Nat, (m : Int) < 2 → ∃ g : Fn, (g = .any ∨ g = .all) ∧ [V.str "any", V.str "all"][m]? = some (.str g.z)
  | 0, _ => ⟨.any, .inl rfl, rfl⟩
  | 1, _ => ⟨.all, .inr rfl, rfl⟩
  | m + 2, h => by omega
theorem pick_ab : ∀ m : Nat, (m : Int) < 2 → ∃ g : Str, [V.str "a", V.str "b"][m]? = some (.str g)
  | 0, _ => ⟨_, rfl⟩
  | 1, _ => ⟨_, rfl⟩
  | m + 2, h => by omega
theorem pick_ao : ∀ m : Nat, (m : Int) < 2 → ∃ g : Sg, (g = .or ∨ g = .and) ∧ [V.str "and", V.str "or"][m]? = some (.str g.z)
  | 0, _ => ⟨.and, .inr rfl, rfl⟩
  | 1, _ => ⟨.or, .inl rfl, rfl⟩
  | m + 2, h => by omega
theorem pick_or : ∀ m : Nat, (m : Int) < 3 → ∃ g : Sg, (g = .lt ∨ g = .ge ∨ g = .eq) ∧ [V.str "<", V.str ">=", V.str "="][m]? = some (.str g.z)
  | 0, _ => ⟨.lt, .inl rfl, rfl⟩
  | 1, _ => ⟨.ge, .inr (.inl rfl), rfl⟩
  | 2, _ => ⟨.eq, .inr (.inr rfl), rfl⟩
  | m + 3, h => by omega
theorem ty_ov {t : Ts} {f : Fn} {x : Str} (h : f = .sum ∨ f = .least ∨ f = .greatest) (m : (x, Kd.number) ∈ t.O) : Ty t .number (.ask f x) := by
  rcases h with rfl | rfl | rfl
  · exact .sum m
  · exact .least m
  · exact .greatest m
theorem ty_any {t : Ts} {f : Fn} {x : Str} (h : f = .any ∨ f = .all) (m : (x, Kd.truth) ∈ t.O) : Ty t .truth (.ask f x) := by
  rcases h with rfl | rfl
  · exact .any m
  · exact .all m
theorem ty_ar {t : Ts} {g : Sg} {a b : Ex} (h : g = .add ∨ g = .sub ∨ g = .mul ∨ g = .els) (ha : Ty t .number a) (hb : Ty t .number b) : Ty t .number (.op g a b) := by
  rcases h with rfl | rfl | rfl | rfl
  · exact .arith (.inl rfl) ha hb
  · exact .arith (.inr (.inl rfl)) ha hb
  · exact .arith (.inr (.inr rfl)) ha hb
  · exact .els ha hb
theorem ty_or {t : Ts} {g : Sg} {a b : Ex} (h : g = .lt ∨ g = .ge ∨ g = .eq) (ha : Ty t .number a) (hb : Ty t .number b) : Ty t .truth (.op g a b) := by
  rcases h with rfl | rfl | rfl
  · exact .ord (.inl rfl) ha hb
  · exact .ord (.inr rfl) ha hb
  · exact .same (.inl rfl) ha hb
section
variable {P : Program} {w : World} {K : PySem.W.Frag} {mg : Str → Option Value} {base : Heap} {cSc cSv aW aP aN aO aA : Addr}
abbrev s_law_named : Stmt := top 29
theorem sc_law_named : FnScope ["_law_kinds", "_law_kind", "_law_name"] ["_law_kinds", "_law_kind"] (defScope s_law_named) := ⟨rfl, rfl, rfl, by decide +kernel, rfl, by decide +kernel, by decide +kernel⟩
theorem ok_named {f : Addr} {fd : FuncData} (T : Txt K mg w cSc cSv aW aP aN aO aA) (F : Fun K "_law_named" "_law_named" s_law_named f fd) : FnOk P w K mg base CX0 1 f fd ["_law_kinds", "_law_kind"] spNamed := by
  refine F.ok sc_law_named (fun vs H Q E h => ?_) (fun cdv A outer s H vs Q E hr h => ?_)
  · obtain ⟨d, es, k, rfl, _⟩ := h
    rfl
  obtain ⟨d, es, kd, rfl, hd, nd, le, k⟩ := h
  have hu := hu_of hr
  refine ⟨_, (pss_one (ps_ret (pe_lock (pe_lc (own := [("_law_name", 2)]) (g := gName 2) (by rfl) sc_law_named.nd (pi_keys (pv 0)) (blkOk_by (N := ["_law_kinds", "_law_kind", "_law_name"]) (sc := defScope s_law_named) (by decide +kernel)) (fun _ _ _ _ _ => pg_name (i := 2) sc_law_named.nd rfl (Or.inl rfl) (hf := Or.inr rfl)) (fun _ _ _ _ _ => pts_one (pt_cmpR op_eq (pe_dget hu (pv 0) (pv 2) (fun _ _ => rfl)) (pv 1) (nomark _))) (fun _ _ _ _ _ => (pv 2)))))), ?_⟩
  refine ⟨d, _, hd, trivial, fun od => ?_⟩
  refine ⟨_, rfl, d, od, rfl, .inl ⟨_, upd_same, fun D nD => ?_⟩⟩
  have ndD : D ≠ d := by
    rintro rfl
    rw [upd_same] at nD
    cases nD
  refine lc_it (walk_keys (d := d) (o := od) (kvs := kvK es)) (fun i H' => Same (upd H d (.frz od (.dK (kvK es)))) H' ∧ H' D = some (.lst ((nmK (es.take i) kd).map V.str)))
    ⟨same_upd nD, upd_same⟩ (fun i H' _ ⟨s', _⟩ => s' _ _ upd_same) ?_ ?_
  · rintro i x H1 H2 hi ⟨s1, h1⟩ ⟨rfl, k', v, hk, rfl⟩
    have hi : i < es.length := by simpa [kvK] using hi
    have hk2 : some ((.inr es[i].1 : Key), V.str es[i].2.z) = some (k', v) := by
      rw [← hk, kvK, List.getElem?_map, List.getElem?_eq_getElem hi]
      rfl
    obtain ⟨rfl, rfl⟩ : (.inr es[i].1 : Key) = k' ∧ V.str es[i].2.z = v := by
      have := Option.some.inj hk2
      exact ⟨congrArg Prod.fst this, congrArg Prod.snd this⟩
    have fz := s1 _ _ upd_same
    have va := kvK_val nd (x := es[i].1) (k := es[i].2) (List.getElem_mem hi)
    have tk : es.take (i + 1) = es.take i ++ [es[i]] := take_snoc (List.getElem?_eq_getElem hi)
    refine ⟨rfl, _, rfl, _, rfl, d, _, rfl, .inl ⟨_, _, .inr ⟨od, fz⟩, rfl, va.symm⟩, _, rfl, rfl, ?_⟩
    refine ⟨_, rfl, ite2 (fun c => ?_) (fun c => ?_)⟩
    · have c : es[i].2 = kd := kz_inj _ _ (V.str.inj (of_decide_eq_true c))
      refine ⟨_, rfl, _, h1, lt_line (by rw [List.length_map]; exact Nat.le_trans (nmK_len _ _) (by rw [List.length_take]; omega)), same_but s1 but_upd nD, ?_⟩
      rw [upd_same, tk, nmK_app, nmK_y c, List.map_append]
      rfl
    · have c : ¬ es[i].2 = kd := fun e => c (by rw [e]; exact decide_eq_true rfl)
      refine ⟨s1, ?_⟩
      rw [h1, tk, nmK_app, nmK_n c, List.append_nil]
  · rintro H1 ⟨s1, h1⟩
    have et : es.take (kvK es).length = es := List.take_of_length_le (by simp [kvK])
    rw [et] at h1
    refine ⟨s1 _ _ upd_same, k D _ (by rw [upd_ne ndD] at nD; exact nD) (fun b o hb => ?_) (by rw [upd_ne ndD]; exact h1)⟩
    by_cases e : b = d
    · subst e
      rw [upd_same, ← hd, hb]
    · rw [upd_ne e]
      exact s1 _ _ (by rw [upd_ne e]; exact hb)
end
end FF
/-! The generator: numbers and truths. -/
namespace FF
open PySem L2
section
variable {P : Program} {w : World} {K : PySem.W.Frag} {mg : Str → Option Value} {base : Heap} {cSc cSv aW aP aN aO aA : Addr}
abbrev s_law_number : Stmt := top 30
theorem sc_law_number : FnScope ["_law_box", "_law_scope", "_law_depth", "_law_names", "_law_kind"] ["_law_box", "_law_scope", "_law_depth"] (defScope s_law_number) := ⟨rfl, rfl, rfl, by decide +kernel, rfl, by decide +kernel, by decide +kernel⟩
theorem ok_number {n : Nat} {f : Addr} {fd : FuncData} (T : Txt K mg w cSc cSv aW aP aN aO aA) (F : Fun K "_law_number" "_law_number" s_law_number f fd)
    (G_law_draw : Has P w K mg base "_law_draw" 1 ["_law_box", "_law_many"] spDraw) (G_law_pick : Has P w K mg base "_law_pick" 2 ["_law_box", "_law_rows"] spPick) (G_law_named : Has P w K mg base "_law_named" 1 ["_law_kinds", "_law_kind"] spNamed)
    (G_law_number : Has P w K mg base "_law_number" (2 * n + 3) ["_law_box", "_law_scope", "_law_depth"] (spNum n)) (G_law_truth : Has P w K mg base "_law_truth" (2 * n + 4) ["_law_box", "_law_scope", "_law_depth"] (spTru n)) :
    FnOk P w K mg base CX0 (2 * n + 5) f fd ["_law_box", "_law_scope", "_law_depth"] (spNum (n + 1)) := by
  refine F.ok sc_law_number (fun vs H Q E h => ?_) (fun cdv A outer s H vs Q E hr h => ?_)
  · obtain ⟨p, q, d, t, rfl, _⟩ := h
    rfl
  obtain ⟨p, q, d, t, rfl, hd, bx, ls, k⟩ := h
  refine ⟨_, (pss_cons (ps_set (i := 3) sc_law_number.nd rfl (Or.inl rfl) (pe_callH G_law_named (hr.mono (by omega)) (by rfl) (pa_cons (pe_ix (r := rIxL K) ix_list (pv 1) pe_int (fun _ _ => rfl)) (pa_cons pe_str pa_nil))))
      (pss_cons (ps_set (i := 4) sc_law_number.nd rfl (Or.inl rfl) (pe_callH G_law_draw (hr.mono (by omega)) (by rfl) (pa_cons (pv 0) (pa_cons pe_int pa_nil))))
      (pss_cons (ps_if (PW.pt (pw_and (pt_cmpR op_lt (pv 4) pe_int (nomark _)) (pw_and1 (pt_cmpR op_gt (pe_callB call_len_seq (by rfl) T.len (by decide +kernel) (pa_cons (pv 3) pa_nil)) pe_int (nomark _)))))
        (pss_one (ps_ret (pe_tupN (pa_cons pe_str (pa_cons (pe_callH G_law_pick (hr.mono (by omega)) (by rfl) (pa_cons (pv 0) (pa_cons (pv 3) pa_nil))) pa_nil)))))
        pss_nil)
      (pss_cons (ps_if (PW.pt (pw_and (pt_cmpR op_eq (pv 4) pe_int (nomark _)) (pw_and1 (pt_cmpR op_gt (pe_callB call_len_seq (by rfl) T.len (by decide +kernel) (pa_cons (pe_ix (r := rIxL K) ix_list (pv 1) pe_int (fun _ _ => rfl)) pa_nil)) pe_int (nomark _)))))
        (pss_one (ps_ret (pe_tupN (pa_cons pe_str (pa_cons pe_str (pa_cons (pe_callH G_law_pick (hr.mono (by omega)) (by rfl) (pa_cons (pv 0) (pa_cons (pe_ix (r := rIxL K) ix_list (pv 1) pe_int (fun _ _ => rfl)) pa_nil))) pa_nil))))))
        pss_nil)
      (pss_cons (ps_if (PW.pt (pw_and (pt_cmpR op_eq (pv 4) pe_int (nomark _)) (pw_and1 (pt_cmpR op_gt (pe_callB call_len_seq (by rfl) T.len (by decide +kernel) (pa_cons (pe_callH G_law_named (hr.mono (by omega)) (by rfl) (pa_cons (pe_ix (r := rIxL K) ix_list (pv 1) pe_int (fun _ _ => rfl)) (pa_cons pe_str pa_nil))) pa_nil)) pe_int (nomark _)))))
        (pss_one (ps_ret (pe_tupN (pa_cons pe_str (pa_cons (pe_ix (r := rIxL K) ix_list (pe_lstN (pa_cons pe_str (pa_cons pe_str (pa_cons pe_str pa_nil)))) (pe_callH G_law_draw (hr.mono (by omega)) (by rfl) (pa_cons (pv 0) (pa_cons pe_int pa_nil))) (fun _ _ => rfl)) (pa_cons (pe_callH G_law_pick (hr.mono (by omega)) (by rfl) (pa_cons (pv 0) (pa_cons (pe_callH G_law_named (hr.mono (by omega)) (by rfl) (pa_cons (pe_ix (r := rIxL K) ix_list (pv 1) pe_int (fun _ _ => rfl)) (pa_cons pe_str pa_nil))) pa_nil))) pa_nil))))))
        pss_nil)
      (pss_cons (ps_if (PW.pt (pw_and (pt_cmpR op_eq (pv 4) pe_int (nomark _)) (pw_and1 (pt_val (pe_ix (r := rIxL K) ix_list (pv 1) pe_int (fun _ _ => rfl))))))
        (pss_one (ps_ret (pe_tupN (pa_cons pe_str pa_nil))))
        pss_nil)
      (pss_cons (ps_if (PW.pt (pw_and (pt_cmpR op_eq (pv 4) pe_int (nomark _)) (pw_and1 (pt_cmpR op_gt (pv 2) pe_int (nomark _)))))
        (pss_one (ps_ret (pe_tupN (pa_cons pe_str (pa_cons (pe_ix (r := rIxL K) ix_list (pe_lstN (pa_cons pe_str (pa_cons pe_str (pa_cons pe_str (pa_cons pe_str pa_nil))))) (pe_callH G_law_draw (hr.mono (by omega)) (by rfl) (pa_cons (pv 0) (pa_cons pe_int pa_nil))) (fun _ _ => rfl)) (pa_cons (pe_callH G_law_number (hr.mono (by omega)) (by rfl) (pa_cons (pv 0) (pa_cons (pv 1) (pa_cons (pe_op op_sub (pv 2) pe_int) pa_nil)))) (pa_cons (pe_callH G_law_number (hr.mono (by omega)) (by rfl) (pa_cons (pv 0) (pa_cons (pv 1) (pa_cons (pe_op op_sub (pv 2) pe_int) pa_nil)))) pa_nil)))))))
        pss_nil)
      (pss_cons (ps_if (PW.pt (pw_and (pt_cmpR op_eq (pv 4) pe_int (nomark _)) (pw_and1 (pt_cmpR op_gt (pv 2) pe_int (nomark _)))))
        (pss_one (ps_ret (pe_tupN (pa_cons pe_str (pa_cons (pe_callH G_law_truth (hr.mono (by omega)) (by rfl) (pa_cons (pv 0) (pa_cons (pv 1) (pa_cons (pe_op op_sub (pv 2) pe_int) pa_nil)))) (pa_cons (pe_callH G_law_number (hr.mono (by omega)) (by rfl) (pa_cons (pv 0) (pa_cons (pv 1) (pa_cons (pe_op op_sub (pv 2) pe_int) pa_nil)))) (pa_cons (pe_callH G_law_number (hr.mono (by omega)) (by rfl) (pa_cons (pv 0) (pa_cons (pv 1) (pa_cons (pe_op op_sub (pv 2) pe_int) pa_nil)))) pa_nil)))))))
        pss_nil)
      (pss_one (ps_ret (pe_tupN (pa_cons pe_str (pa_cons (pe_callH G_law_draw (hr.mono (by omega)) (by rfl) (pa_cons (pv 0) (pa_cons pe_int pa_nil))) pa_nil))))))))))))), ?_⟩
  have lsAll := fun {H'} (g : But p H H') => LsAt.but bx g ls
  obtain ⟨a, b, c, hq, ha, hb, hc, ndN, ndO, lN, lO, lS⟩ := id ls
  refine ⟨_, rfl, q, _, 0, _, rfl, rfl, SqL.of hq, at0, a, t.N, .number, rfl, ha, ndN, lN, fun l1 H1 nl1 s1 h1 => ?_⟩
  refine ⟨_, rfl, p, 8, rfl, by decide, bx.same s1, fun m H2 hm b2 bx2 => ?_⟩
  have g1 : Gn p H H1 := ⟨But.of_same s1, bx.same s1⟩
  have g2 : Gn p H H2 := g1.b b2 bx2
  have h2 := g1.lst nl1 bx b2 h1
  have fin : ∀ {z : Nat} {e : Ex} {v : V} {H3 : Hp}, Ty t .number e → e.ht ≤ 2 * d → Gn p H H3 → ExAt H3 e v → Q v H3 := fun a b c d => k _ _ _ a b c d
  obtain ⟨a2, b2', c2, hq2, ha2, hb2, hc2, -⟩ := id (lsAll g2.1)
  obtain ⟨rfl, rfl, rfl⟩ : a2 = a ∧ b2' = b ∧ c2 = c := by
    have e := g2.1 q _ (by rintro rfl; obtain ⟨u, ds, n', e1, _⟩ := bx; rw [hq] at e1; cases e1) hq
    rw [hq2] at e
    cases e
    exact ⟨rfl, rfl, rfl⟩
  have last : ∀ H3, Gn p H H3 → ∀ Q' : VK, (∀ v H', Q v H' → Q' v H') → (uTup (tCons (tC (V.str "number")) (tCons (tCall spDraw [] E0 (tCons (tVar 0) (tCons (tC (V.int 6)) tNil))) tNil))) [some (.ref p), some (.ref q), some (.int (d : Nat)), some (.ref l1), some (.int (m : Nat))] H3 Q' := fun H3 g3 Q' qq => by
    refine ⟨_, rfl, p, 6, rfl, by decide, g3.2, fun j H4 hj b4 bx4 => ⟨le_line (by simp), fun x H5 nx s5 h5 => qq _ _ ?_⟩⟩
    exact k (.num (j : Nat)) _ _ (.num _) (Nat.zero_le _) ((g3.b b4 bx4).s s5) ⟨_, rfl, h5⟩
  match m, hm with
  | 0, _ | 1, _ =>
    refine ⟨_, rfl, _, _, rfl, rfl, _, rfl, it_y (by decide) ?_⟩
    refine ⟨_, rfl, l1, _, rfl, .inl (SqL.of h2), _, _, rfl, rfl, _, rfl, ite2 (fun c => ?_) (fun c => ?_)⟩
    · have nz : nmK t.N .number ≠ [] := fun e => by rw [e] at c; exact absurd c (by decide)
      refine ⟨_, rfl, _, rfl, p, l1, _, rfl, g2.2, h2, nz, by have := nmK_len t.N .number; omega, fun z H3 hz b3 bx3 => ⟨le_line (by simp), fun x H4 nx s4 h4 => ?_⟩⟩
      exact k (.nam z) _ _ (.nam (nmK_mem hz) rfl) (Nat.zero_le _) ((g2.b b3 bx3).s s4) ⟨_, rfl, h4⟩
    · refine ⟨_, rfl, rfl, _, rfl, it_n (by decide) (it_n rfl ?_)⟩
      refine ⟨_, rfl, rfl, _, rfl, it_n (by decide) (it_n rfl ?_)⟩
      refine ⟨_, rfl, rfl, _, rfl, it_n (by decide) (it_n rfl ?_)⟩
      refine ⟨_, rfl, rfl, _, rfl, it_n (by decide) (it_n rfl ?_)⟩
      refine ⟨_, rfl, rfl, _, rfl, it_n (by decide) (it_n rfl ?_)⟩
      exact last _ g2 _ fun _ _ z => z
  | 2, _ =>
    refine ⟨_, rfl, _, _, rfl, rfl, _, rfl, it_n (by decide) (it_n rfl ?_)⟩
    refine ⟨_, rfl, rfl, _, rfl, it_y (by decide) ?_⟩
    refine ⟨_, rfl, q, _, 2, _, rfl, rfl, SqL.of hq2, at2, c2, _, rfl, .inl (SqL.of hc2), _, _, rfl, rfl, _, rfl, ite2 (fun c => ?_) (fun c => ?_)⟩
    · have nz : t.S ≠ [] := fun e => by rw [e] at c; exact absurd c (by decide)
      refine ⟨_, rfl, _, rfl, q, _, 2, _, rfl, rfl, SqL.of hq2, at2, p, c2, _, rfl, g2.2, hc2, nz, by omega, fun z H3 hz b3 bx3 => ⟨le_line (by simp), fun x H4 nx s4 h4 => ?_⟩⟩
      exact k (.ask .count z) _ _ (.count hz) (Nat.zero_le _) ((g2.b b3 bx3).s s4) ⟨_, rfl, h4⟩
    · refine ⟨_, rfl, rfl, _, rfl, it_n (by decide) (it_n rfl ?_)⟩
      refine ⟨_, rfl, rfl, _, rfl, it_n (by decide) (it_n rfl ?_)⟩
      refine ⟨_, rfl, rfl, _, rfl, it_n (by decide) (it_n rfl ?_)⟩
      refine ⟨_, rfl, rfl, _, rfl, it_n (by decide) (it_n rfl ?_)⟩
      exact last _ g2 _ fun _ _ z => z
  | 3, _ =>
    refine ⟨_, rfl, _, _, rfl, rfl, _, rfl, it_n (by decide) (it_n rfl ?_)⟩
    refine ⟨_, rfl, rfl, _, rfl, it_n (by decide) (it_n rfl ?_)⟩
    refine ⟨_, rfl, rfl, _, rfl, it_y (by decide) ?_⟩
    refine ⟨_, rfl, q, _, 1, _, rfl, rfl, SqL.of hq2, at1, b2', t.O, .number, rfl, hb2, ndO, lO, fun l3 H3 nl3 s3 h3 => ?_⟩
    refine ⟨l3, _, rfl, .inl (SqL.of h3), _, _, rfl, rfl, _, rfl, ite2 (fun c => ?_) (fun c => ?_)⟩
    · have nz : nmK t.O .number ≠ [] := fun e => by rw [e] at c; exact absurd c (by decide)
      have g3 := g2.s s3
      refine ⟨le_line (by simp), fun l4 H4 nl4 s4 h4 => ⟨_, rfl, p, 3, rfl, by decide, (g3.s s4).2, fun j H5 hj b5 bx5 => ?_⟩⟩
      obtain ⟨fn, hfn, ej⟩ := pick_ov j hj
      have g4 := g3.s s4
      have nl4' : l4 ≠ p := by rintro rfl; obtain ⟨u, ds, n', e1, _⟩ := g3.2; rw [e1] at nl4; cases nl4
      have h5 := b5 _ _ nl4' h4
      have g5 := g4.b b5 bx5
      refine ⟨l4, _, j, _, rfl, rfl, SqL.of h5, atI_nat ej, ?_⟩
      obtain ⟨a6, b6, c6, hq6, ha6, hb6, hc6, -⟩ := id (lsAll g5.1)
      refine ⟨_, rfl, _, rfl, q, _, 1, _, rfl, rfl, SqL.of hq6, at1, b6, t.O, .number, rfl, hb6, ndO, lO, fun l6 H6 nl6 s6 h6 => ?_⟩
      have g6 := g5.s s6
      refine ⟨p, l6, _, rfl, g6.2, h6, nz, by have := nmK_len t.O .number; omega, fun z H7 hz b7 bx7 => ⟨le_line (by simp), fun x H8 nx s8 h8 => ?_⟩⟩
      exact k (.ask fn z) _ _ (ty_ov hfn (nmK_mem hz)) (Nat.zero_le _) ((g6.b b7 bx7).s s8) ⟨_, rfl, h8⟩
    · refine ⟨_, rfl, rfl, _, rfl, it_n (by decide) (it_n rfl ?_)⟩
      refine ⟨_, rfl, rfl, _, rfl, it_n (by decide) (it_n rfl ?_)⟩
      refine ⟨_, rfl, rfl, _, rfl, it_n (by decide) (it_n rfl ?_)⟩
      exact last _ (g2.s s3) _ fun _ _ z => z
  | 4, _ =>
    refine ⟨_, rfl, _, _, rfl, rfl, _, rfl, it_n (by decide) (it_n rfl ?_)⟩
    refine ⟨_, rfl, rfl, _, rfl, it_n (by decide) (it_n rfl ?_)⟩
    refine ⟨_, rfl, rfl, _, rfl, it_n (by decide) (it_n rfl ?_)⟩
    refine ⟨_, rfl, rfl, _, rfl, it_y (by decide) ?_⟩
    refine ⟨_, rfl, q, _, 3, _, rfl, rfl, SqL.of hq2, at3, _, rfl, ite2 (fun c => ?_) (fun c => ?_)⟩
    · refine ⟨le_line (by simp), fun x H4 nx s4 h4 => ?_⟩
      exact k .row _ _ (.row c) (Nat.zero_le _) (g2.s s4) ⟨_, rfl, h4⟩
    · refine ⟨_, rfl, rfl, _, rfl, it_n (by decide) (it_n rfl ?_)⟩
      refine ⟨_, rfl, rfl, _, rfl, it_n (by decide) (it_n rfl ?_)⟩
      exact last _ g2 _ fun _ _ z => z
  | 5, _ =>
    refine ⟨_, rfl, _, _, rfl, rfl, _, rfl, it_n (by decide) (it_n rfl ?_)⟩
    refine ⟨_, rfl, rfl, _, rfl, it_n (by decide) (it_n rfl ?_)⟩
    refine ⟨_, rfl, rfl, _, rfl, it_n (by decide) (it_n rfl ?_)⟩
    refine ⟨_, rfl, rfl, _, rfl, it_n (by decide) (it_n rfl ?_)⟩
    refine ⟨_, rfl, rfl, _, rfl, it_y (by decide) ?_⟩
    refine ⟨_, rfl, _, _, rfl, rfl, _, rfl, ite2 (fun c => ?_) (fun c => ?_)⟩
    · obtain ⟨d, rfl⟩ : ∃ d', d = d' + 1 := ⟨d - 1, by have := of_decide_eq_true c; omega⟩
      have ed : [V.ref p, V.ref q, V.int (((d + 1 : Nat) : Int) - 1)] ++ [] = [V.ref p, V.ref q, V.int (d : Nat)] := by rw [show ((d + 1 : Nat) : Int) - 1 = (d : Nat) by omega]; rfl
      refine ⟨le_line (by simp), fun l4 H4 nl4 s4 h4 => ⟨_, rfl, p, 4, rfl, by decide, (g2.s s4).2, fun j H5 hj b5 bx5 => ?_⟩⟩
      obtain ⟨sg, hsg, ej⟩ := pick_ar j hj
      have g4 := g2.s s4
      have nl4' : l4 ≠ p := by rintro rfl; obtain ⟨u, ds, n', e1, _⟩ := g2.2; rw [e1] at nl4; cases nl4
      have h5 := b5 _ _ nl4' h4
      have g5 := g4.b b5 bx5
      refine ⟨l4, _, j, _, rfl, rfl, SqL.of h5, atI_nat ej, ?_⟩
      refine ⟨_, rfl, _, rfl, _, rfl, _, _, rfl, rfl, p, q, d, t, ed, by omega, g5.2, lsAll g5.1, fun e1 v1 H6 t1 x1 y1 a1 => ?_⟩
      have g6 : Gn p H H6 := g5.b y1.1 y1.2
      refine ⟨_, rfl, _, rfl, _, rfl, _, _, rfl, rfl, p, q, d, t, ed, by omega, g6.2, lsAll g6.1, fun e2 v2 H7 t2 x2 y2 a2 => ⟨le_line (by simp), fun x H8 nx s8 h8 => ?_⟩⟩
      have g7 : Gn p H H7 := g6.b y2.1 y2.2
      exact k (.op sg e1 e2) _ _ (ty_ar hsg t1 t2) (by simp only [Ex.ht]; omega) (g7.s s8) ⟨_, _, _, rfl, h8, (a1.tm (y1.2.tm y2.1)).tm (tm_same s8), a2.tm (tm_same s8)⟩
    · refine ⟨_, rfl, rfl, _, rfl, it_n (by decide) (it_n rfl ?_)⟩
      exact last _ g2 _ fun _ _ z => z
  | 6, _ =>
    refine ⟨_, rfl, _, _, rfl, rfl, _, rfl, it_n (by decide) (it_n rfl ?_)⟩
    refine ⟨_, rfl, rfl, _, rfl, it_n (by decide) (it_n rfl ?_)⟩
    refine ⟨_, rfl, rfl, _, rfl, it_n (by decide) (it_n rfl ?_)⟩
    refine ⟨_, rfl, rfl, _, rfl, it_n (by decide) (it_n rfl ?_)⟩
    refine ⟨_, rfl, rfl, _, rfl, it_n (by decide) (it_n rfl ?_)⟩
    refine ⟨_, rfl, rfl, _, rfl, it_y (by decide) ?_⟩
    refine ⟨_, rfl, _, _, rfl, rfl, _, rfl, ite2 (fun c => ?_) (fun c => ?_)⟩
    · obtain ⟨d, rfl⟩ : ∃ d', d = d' + 1 := ⟨d - 1, by have := of_decide_eq_true c; omega⟩
      have ed : [V.ref p, V.ref q, V.int (((d + 1 : Nat) : Int) - 1)] ++ [] = [V.ref p, V.ref q, V.int (d : Nat)] := by rw [show ((d + 1 : Nat) : Int) - 1 = (d : Nat) by omega]; rfl
      refine ⟨_, rfl, _, rfl, _, rfl, _, _, rfl, rfl, p, q, d, t, ed, by omega, g2.2, lsAll g2.1, fun e1 v1 H6 t1 x1 y1 a1 => ?_⟩
      have g6 : Gn p H H6 := g2.b y1.1 y1.2
      refine ⟨_, rfl, _, rfl, _, rfl, _, _, rfl, rfl, p, q, d, t, ed, by omega, g6.2, lsAll g6.1, fun e2 v2 H7 t2 x2 y2 a2 => ?_⟩
      have g7 : Gn p H H7 := g6.b y2.1 y2.2
      refine ⟨_, rfl, _, rfl, _, rfl, _, _, rfl, rfl, p, q, d, t, ed, by omega, g7.2, lsAll g7.1, fun e3 v3 H8 t3 x3 y3 a3 => ⟨le_line (by simp), fun x H9 nx s9 h9 => ?_⟩⟩
      have g8 : Gn p H H8 := g7.b y3.1 y3.2
      have u2 := y1.2.tm y2.1
      have u3 := y2.2.tm y3.1
      have u4 := tm_same s9
      exact k (.ite e1 e2 e3) _ _ (.ite t1 t2 t3) (by simp only [Ex.ht]; omega) (g8.s s9) ⟨_, _, _, _, rfl, h9, ((a1.tm u2).tm u3).tm u4, (a2.tm u3).tm u4, a3.tm u4⟩
    · exact last _ g2 _ fun _ _ z => z
  | 7, _ =>
    refine ⟨_, rfl, _, _, rfl, rfl, _, rfl, it_n (by decide) (it_n rfl ?_)⟩
    refine ⟨_, rfl, rfl, _, rfl, it_n (by decide) (it_n rfl ?_)⟩
    refine ⟨_, rfl, rfl, _, rfl, it_n (by decide) (it_n rfl ?_)⟩
    refine ⟨_, rfl, rfl, _, rfl, it_n (by decide) (it_n rfl ?_)⟩
    refine ⟨_, rfl, rfl, _, rfl, it_n (by decide) (it_n rfl ?_)⟩
    refine ⟨_, rfl, rfl, _, rfl, it_n (by decide) (it_n rfl ?_)⟩
    exact last _ g2 _ fun _ _ z => z
  | m + 8, hm => exact absurd hm (by omega)
end
end FF
/-! The generator: truths, and both by depth. -/
namespace FF
open PySem L2
section
variable {P : Program} {w : World} {K : PySem.W.Frag} {mg : Str → Option Value} {base : Heap} {cSc cSv aW aP aN aO aA : Addr}
abbrev s_law_truth : Stmt := top 31
theorem sc_law_truth : FnScope ["_law_box", "_law_scope", "_law_depth", "_law_names", "_law_kind"] ["_law_box", "_law_scope", "_law_depth"] (defScope s_law_truth) := ⟨rfl, rfl, rfl, by decide +kernel, rfl, by decide +kernel, by decide +kernel⟩
theorem ok_truth {n : Nat} {f : Addr} {fd : FuncData} (T : Txt K mg w cSc cSv aW aP aN aO aA) (F : Fun K "_law_truth" "_law_truth" s_law_truth f fd)
    (G_law_draw : Has P w K mg base "_law_draw" 1 ["_law_box", "_law_many"] spDraw) (G_law_pick : Has P w K mg base "_law_pick" 2 ["_law_box", "_law_rows"] spPick) (G_law_named : Has P w K mg base "_law_named" 1 ["_law_kinds", "_law_kind"] spNamed)
    (G_law_number : Has P w K mg base "_law_number" (2 * n + 5) ["_law_box", "_law_scope", "_law_depth"] (spNum (n + 1))) (G_law_truth : Has P w K mg base "_law_truth" (2 * n + 4) ["_law_box", "_law_scope", "_law_depth"] (spTru n)) :
    FnOk P w K mg base CX0 (2 * n + 6) f fd ["_law_box", "_law_scope", "_law_depth"] (spTru (n + 1)) := by
  refine F.ok sc_law_truth (fun vs H Q E h => ?_) (fun cdv A outer s H vs Q E hr h => ?_)
  · obtain ⟨p, q, d, t, rfl, _⟩ := h
    rfl
  obtain ⟨p, q, d, t, rfl, hd, bx, ls, k⟩ := h
  refine ⟨_, (pss_cons (ps_set (i := 3) sc_law_truth.nd rfl (Or.inl rfl) (pe_callH G_law_named (hr.mono (by omega)) (by rfl) (pa_cons (pe_ix (r := rIxL K) ix_list (pv 1) pe_int (fun _ _ => rfl)) (pa_cons pe_str pa_nil))))
      (pss_cons (ps_set (i := 4) sc_law_truth.nd rfl (Or.inl rfl) (pe_callH G_law_draw (hr.mono (by omega)) (by rfl) (pa_cons (pv 0) (pa_cons pe_int pa_nil))))
      (pss_cons (ps_if (PW.pt (pw_and (pt_cmpR op_lt (pv 4) pe_int (nomark _)) (pw_and1 (pt_cmpR op_gt (pe_callB call_len_seq (by rfl) T.len (by decide +kernel) (pa_cons (pv 3) pa_nil)) pe_int (nomark _)))))
        (pss_one (ps_ret (pe_tupN (pa_cons pe_str (pa_cons (pe_callH G_law_pick (hr.mono (by omega)) (by rfl) (pa_cons (pv 0) (pa_cons (pv 3) pa_nil))) pa_nil)))))
        pss_nil)
      (pss_cons (ps_if (PW.pt (pw_and (pt_cmpR op_eq (pv 4) pe_int (nomark _)) (pw_and1 (pt_cmpR op_gt (pe_callB call_lenD (by rfl) T.len (by decide +kernel) (pa_cons (pe_ix (r := rIxL K) ix_list (pv 1) pe_int (fun _ _ => rfl)) pa_nil)) pe_int (nomark _)))))
        (pss_one (ps_ret (pe_tupN (pa_cons pe_str (pa_cons pe_str (pa_cons (pe_callH G_law_pick (hr.mono (by omega)) (by rfl) (pa_cons (pv 0) (pa_cons (pe_callTy (call_list_dKN (by rfl)) (by rfl) T.list (by decide +kernel) (pa_cons (pe_ix (r := rIxL K) ix_list (pv 1) pe_int (fun _ _ => rfl)) pa_nil)) pa_nil))) pa_nil))))))
        pss_nil)
      (pss_cons (ps_if (PW.pt (pw_and (pt_cmpR op_eq (pv 4) pe_int (nomark _)) (pw_and1 (pt_cmpR op_gt (pe_callB call_len_seq (by rfl) T.len (by decide +kernel) (pa_cons (pe_callH G_law_named (hr.mono (by omega)) (by rfl) (pa_cons (pe_ix (r := rIxL K) ix_list (pv 1) pe_int (fun _ _ => rfl)) (pa_cons pe_str pa_nil))) pa_nil)) pe_int (nomark _)))))
        (pss_one (ps_ret (pe_tupN (pa_cons pe_str (pa_cons (pe_callH G_law_pick (hr.mono (by omega)) (by rfl) (pa_cons (pv 0) (pa_cons (pe_callH G_law_named (hr.mono (by omega)) (by rfl) (pa_cons (pe_ix (r := rIxL K) ix_list (pv 1) pe_int (fun _ _ => rfl)) (pa_cons pe_str pa_nil))) pa_nil))) (pa_cons (pe_ix (r := rIxL K) ix_list (pe_lstN (pa_cons pe_str (pa_cons pe_str pa_nil))) (pe_callH G_law_draw (hr.mono (by omega)) (by rfl) (pa_cons (pv 0) (pa_cons pe_int pa_nil))) (fun _ _ => rfl)) pa_nil))))))
        pss_nil)
      (pss_cons (ps_if (PW.pt (pw_and (pt_cmpR op_eq (pv 4) pe_int (nomark _)) (pw_and1 (pt_cmpR op_gt (pe_callB call_len_seq (by rfl) T.len (by decide +kernel) (pa_cons (pe_callH G_law_named (hr.mono (by omega)) (by rfl) (pa_cons (pe_ix (r := rIxL K) ix_list (pv 1) pe_int (fun _ _ => rfl)) (pa_cons pe_str pa_nil))) pa_nil)) pe_int (nomark _)))))
        (pss_one (ps_ret (pe_tupN (pa_cons pe_str (pa_cons (pe_ix (r := rIxL K) ix_list (pe_lstN (pa_cons pe_str (pa_cons pe_str pa_nil))) (pe_callH G_law_draw (hr.mono (by omega)) (by rfl) (pa_cons (pv 0) (pa_cons pe_int pa_nil))) (fun _ _ => rfl)) (pa_cons (pe_tupN (pa_cons pe_str (pa_cons (pe_callH G_law_pick (hr.mono (by omega)) (by rfl) (pa_cons (pv 0) (pa_cons (pe_callH G_law_named (hr.mono (by omega)) (by rfl) (pa_cons (pe_ix (r := rIxL K) ix_list (pv 1) pe_int (fun _ _ => rfl)) (pa_cons pe_str pa_nil))) pa_nil))) pa_nil))) (pa_cons (pe_tupN (pa_cons pe_str (pa_cons (pe_ix (r := rIxL K) ix_list (pe_lstN (pa_cons pe_str (pa_cons pe_str pa_nil))) (pe_callH G_law_draw (hr.mono (by omega)) (by rfl) (pa_cons (pv 0) (pa_cons pe_int pa_nil))) (fun _ _ => rfl)) pa_nil))) pa_nil)))))))
        pss_nil)
      (pss_cons (ps_if (PW.pt (pw_and (pt_cmpR op_eq (pv 4) pe_int (nomark _)) (pw_and1 (pt_cmpR op_gt (pe_callB call_len_seq (by rfl) T.len (by decide +kernel) (pa_cons (pe_callH G_law_named (hr.mono (by omega)) (by rfl) (pa_cons (pe_ix (r := rIxL K) ix_list (pv 1) pe_int (fun _ _ => rfl)) (pa_cons pe_str pa_nil))) pa_nil)) pe_int (nomark _)))))
        (pss_one (ps_ret (pe_tupN (pa_cons pe_str (pa_cons (pe_ix (r := rIxL K) ix_list (pe_lstN (pa_cons pe_str (pa_cons pe_str pa_nil))) (pe_callH G_law_draw (hr.mono (by omega)) (by rfl) (pa_cons (pv 0) (pa_cons pe_int pa_nil))) (fun _ _ => rfl)) (pa_cons (pe_callH G_law_pick (hr.mono (by omega)) (by rfl) (pa_cons (pv 0) (pa_cons (pe_callH G_law_named (hr.mono (by omega)) (by rfl) (pa_cons (pe_ix (r := rIxL K) ix_list (pv 1) pe_int (fun _ _ => rfl)) (pa_cons pe_str pa_nil))) pa_nil))) pa_nil))))))
        pss_nil)
      (pss_cons (ps_if (PW.pt (pw_or (pt_cmpR op_eq (pv 2) pe_int (nomark _)) (pw_or1 (pt_cmpR op_eq (pv 4) pe_int (nomark _)))))
        (pss_one (ps_ret (pe_tupN (pa_cons pe_str (pa_cons (pe_ix (r := rIxL K) ix_list (pe_lstN (pa_cons pe_str (pa_cons pe_str (pa_cons pe_str pa_nil)))) (pe_callH G_law_draw (hr.mono (by omega)) (by rfl) (pa_cons (pv 0) (pa_cons pe_int pa_nil))) (fun _ _ => rfl)) (pa_cons (pe_callH G_law_number (hr.mono (by omega)) (by rfl) (pa_cons (pv 0) (pa_cons (pv 1) (pa_cons pe_int pa_nil)))) (pa_cons (pe_tupN (pa_cons pe_str (pa_cons (pe_callH G_law_draw (hr.mono (by omega)) (by rfl) (pa_cons (pv 0) (pa_cons pe_int pa_nil))) pa_nil))) pa_nil)))))))
        pss_nil)
      (pss_cons (ps_if (pt_cmpR op_eq (pv 4) pe_int (nomark _))
        (pss_one (ps_ret (pe_tupN (pa_cons pe_str (pa_cons (pe_callH G_law_truth (hr.mono (by omega)) (by rfl) (pa_cons (pv 0) (pa_cons (pv 1) (pa_cons (pe_op op_sub (pv 2) pe_int) pa_nil)))) pa_nil)))))
        pss_nil)
      (pss_one (ps_ret (pe_tupN (pa_cons pe_str (pa_cons (pe_ix (r := rIxL K) ix_list (pe_lstN (pa_cons pe_str (pa_cons pe_str pa_nil))) (pe_callH G_law_draw (hr.mono (by omega)) (by rfl) (pa_cons (pv 0) (pa_cons pe_int pa_nil))) (fun _ _ => rfl)) (pa_cons (pe_callH G_law_truth (hr.mono (by omega)) (by rfl) (pa_cons (pv 0) (pa_cons (pv 1) (pa_cons (pe_op op_sub (pv 2) pe_int) pa_nil)))) (pa_cons (pe_callH G_law_truth (hr.mono (by omega)) (by rfl) (pa_cons (pv 0) (pa_cons (pv 1) (pa_cons (pe_op op_sub (pv 2) pe_int) pa_nil)))) pa_nil)))))))))))))))), ?_⟩
  have lsAll := fun {H'} (g : But p H H') => LsAt.but bx g ls
  obtain ⟨a, b, c, hq, ha, hb, hc, ndN, ndO, lN, lO, lS⟩ := id ls
  refine ⟨_, rfl, q, _, 0, _, rfl, rfl, SqL.of hq, at0, a, t.N, .truth, rfl, ha, ndN, lN, fun l1 H1 nl1 s1 h1 => ?_⟩
  refine ⟨_, rfl, p, 9, rfl, by decide, bx.same s1, fun m H2 hm b2 bx2 => ?_⟩
  have g1 : Gn p H H1 := ⟨But.of_same s1, bx.same s1⟩
  have g2 : Gn p H H2 := g1.b b2 bx2
  have h2 := g1.lst nl1 bx b2 h1
  obtain ⟨a2, b2', c2, hq2, ha2, hb2, hc2, -⟩ := id (lsAll g2.1)
  have fresh : ∀ {H3 : Hp} {l : Addr}, Gn p H H3 → H3 l = none → l ≠ p := fun g nl => by
    rintro rfl
    obtain ⟨u, ds, n', e1, _⟩ := g.2
    rw [e1] at nl
    cases nl
  have ordl : ∀ H3, Gn p H H3 → (uTup (tCons (tC (V.str "op")) (tCons (tOp (rIxL K) (uLst (tCons (tC (V.str "<")) (tCons (tC (V.str ">=")) (tCons (tC (V.str "=")) tNil)))) (tCall spDraw [] E0 (tCons (tVar 0) (tCons (tC (V.int 3)) tNil))))
      (tCons (tCall (spNum (n + 1)) [] E0 (tCons (tVar 0) (tCons (tVar 1) (tCons (tC (V.int 0)) tNil)))) (tCons (uTup (tCons (tC (V.str "number")) (tCons (tCall spDraw [] E0 (tCons (tVar 0) (tCons (tC (V.int 5)) tNil))) tNil))) tNil))))) [some (.ref p), some (.ref q), some (.int (d : Nat)), some (.ref l1), some (.int (m : Nat))] H3 Q := fun H3 g3 => by
    refine ⟨le_line (by simp), fun l4 H4 nl4 s4 h4 => ⟨_, rfl, p, 3, rfl, by decide, (g3.s s4).2, fun j H5 hj b5 bx5 => ?_⟩⟩
    obtain ⟨sg, hsg, ej⟩ := pick_or j hj
    have g4 := g3.s s4
    have h5 := b5 _ _ (fresh g3 nl4) h4
    have g5 := g4.b b5 bx5
    refine ⟨l4, _, j, _, rfl, rfl, SqL.of h5, atI_nat ej, ?_⟩
    refine ⟨_, rfl, _, rfl, p, q, 0, t, rfl, by omega, g5.2, lsAll g5.1, fun e1 v1 H6 t1 x1 y1 a1 => ?_⟩
    have g6 : Gn p H H6 := g5.b y1.1 y1.2
    refine ⟨_, rfl, p, 5, rfl, by decide, g6.2, fun i H7 hi b7 bx7 => ⟨le_line (by simp), fun x H8 nx s8 h8 => ⟨le_line (by simp), fun y H9 ny s9 h9 => ?_⟩⟩⟩
    have g7 := g6.b b7 bx7
    exact k (.op sg e1 (.num (i : Nat))) _ _ (ty_or hsg t1 (.num _)) (by simp only [Ex.ht]; omega) ((g7.s s8).s s9) ⟨_, _, _, rfl, h9, ((a1.tm (g6.2.tm b7)).tm (tm_same s8)).tm (tm_same s9), _, rfl, s9 _ _ h8⟩
  have logic : ∀ d', d = d' + 1 → ∀ H3, Gn p H H3 → (uTup (tCons (tC (V.str "op")) (tCons (tOp (rIxL K) (uLst (tCons (tC (V.str "and")) (tCons (tC (V.str "or")) tNil))) (tCall spDraw [] E0 (tCons (tVar 0) (tCons (tC (V.int 2)) tNil))))
      (tCons (tCall (spTru n) [] E0 (tCons (tVar 0) (tCons (tVar 1) (tCons (tOp (rI0 fun i j => V.int (i - j)) (tVar 2) (tC (V.int 1))) tNil)))) (tCons (tCall (spTru n) [] E0 (tCons (tVar 0) (tCons (tVar 1) (tCons (tOp (rI0 fun i j => V.int (i - j)) (tVar 2) (tC (V.int 1))) tNil)))) tNil))))) [some (.ref p), some (.ref q), some (.int (d : Nat)), some (.ref l1), some (.int (m : Nat))] H3 Q := fun d' e H3 g3 => by
    subst e
    have ed : [V.ref p, V.ref q, V.int (((d' + 1 : Nat) : Int) - 1)] ++ [] = [V.ref p, V.ref q, V.int (d' : Nat)] := by rw [show ((d' + 1 : Nat) : Int) - 1 = (d' : Nat) by omega]; rfl
    refine ⟨le_line (by simp), fun l4 H4 nl4 s4 h4 => ⟨_, rfl, p, 2, rfl, by decide, (g3.s s4).2, fun j H5 hj b5 bx5 => ?_⟩⟩
    obtain ⟨sg, hsg, ej⟩ := pick_ao j hj
    have g4 := g3.s s4
    have h5 := b5 _ _ (fresh g3 nl4) h4
    have g5 := g4.b b5 bx5
    refine ⟨l4, _, j, _, rfl, rfl, SqL.of h5, atI_nat ej, ?_⟩
    refine ⟨_, rfl, _, rfl, _, rfl, _, _, rfl, rfl, p, q, d', t, ed, by omega, g5.2, lsAll g5.1, fun e1 v1 H6 t1 x1 y1 a1 => ?_⟩
    have g6 : Gn p H H6 := g5.b y1.1 y1.2
    refine ⟨_, rfl, _, rfl, _, rfl, _, _, rfl, rfl, p, q, d', t, ed, by omega, g6.2, lsAll g6.1, fun e2 v2 H7 t2 x2 y2 a2 => ⟨le_line (by simp), fun x H8 nx s8 h8 => ?_⟩⟩
    have g7 : Gn p H H7 := g6.b y2.1 y2.2
    exact k (.op sg e1 e2) _ _ (.logic hsg t1 t2) (by simp only [Ex.ht]; omega) (g7.s s8) ⟨_, _, _, rfl, h8, (a1.tm (y1.2.tm y2.1)).tm (tm_same s8), a2.tm (tm_same s8)⟩
  have dn : ∀ d' : Nat, decide (V.int ((d' + 1 : Nat) : Int) = V.int 0) = false := fun d' => decide_eq_false fun e => by injection e with e; omega
  match m, hm with
  | 0, _ | 1, _ =>
    refine ⟨_, rfl, _, _, rfl, rfl, _, rfl, it_y (by decide) ?_⟩
    refine ⟨_, rfl, l1, _, rfl, .inl (SqL.of h2), _, _, rfl, rfl, _, rfl, ite2 (fun c => ?_) (fun c => ?_)⟩
    · have nz : nmK t.N .truth ≠ [] := fun e => by rw [e] at c; exact absurd c (by decide)
      refine ⟨_, rfl, _, rfl, p, l1, _, rfl, g2.2, h2, nz, by have := nmK_len t.N .truth; omega, fun z H3 hz b3 bx3 => ⟨le_line (by simp), fun x H4 nx s4 h4 => ?_⟩⟩
      exact k (.nam z) _ _ (.nam (nmK_mem hz) rfl) (Nat.zero_le _) ((g2.b b3 bx3).s s4) ⟨_, rfl, h4⟩
    · refine ⟨_, rfl, rfl, _, rfl, it_n (by decide) (it_n rfl ?_)⟩
      refine ⟨_, rfl, rfl, _, rfl, it_n (by decide) (it_n rfl ?_)⟩
      refine ⟨_, rfl, rfl, _, rfl, it_n (by decide) (it_n rfl ?_)⟩
      refine ⟨_, rfl, rfl, _, rfl, it_n (by decide) (it_n rfl ?_)⟩
      rcases d with _ | d
      · refine ⟨_, rfl, rfl, _, rfl, it_y (by decide) (it_y rfl ?_)⟩
        exact ordl _ g2
      · refine ⟨_, rfl, rfl, _, rfl, it_n (dn _) ?_⟩
        refine ⟨_, rfl, rfl, _, rfl, it_n (by decide) ?_⟩
        refine ⟨_, rfl, rfl, _, rfl, it_n (by decide) ?_⟩
        exact logic d rfl _ g2
  | 2, _ =>
    refine ⟨_, rfl, _, _, rfl, rfl, _, rfl, it_n (by decide) (it_n rfl ?_)⟩
    refine ⟨_, rfl, rfl, _, rfl, it_y (by decide) ?_⟩
    refine ⟨_, rfl, q, _, 0, _, rfl, rfl, SqL.of hq2, at0, a2, _, rfl, ha2, _, _, rfl, rfl, _, rfl, ite2 (fun c => ?_) (fun c => ?_)⟩
    · have nz : t.N.map (·.1) ≠ [] := fun e => by rw [List.map_eq_nil_iff.mp e] at c; exact absurd c (by decide)
      refine ⟨_, rfl, _, rfl, q, _, 0, _, rfl, rfl, SqL.of hq2, at0, a2, _, rfl, ha2, fun l3 H3 nl3 s3 h3 => ?_⟩
      have g3 := g2.s s3
      have h3' : H3 l3 = some (.lst ((t.N.map (·.1)).map V.str)) := by rw [h3]; simp [kvK, kV]
      refine ⟨p, l3, _, rfl, g3.2, h3', nz, by simp; omega, fun z H4 hz b4 bx4 => ⟨le_line (by simp), fun x H5 nx s5 h5 => ?_⟩⟩
      obtain ⟨⟨z', kd⟩, hz', rfl⟩ := List.mem_map.mp hz
      exact k (.ask .answered z') _ _ (.answered hz') (Nat.zero_le _) ((g3.b b4 bx4).s s5) ⟨_, rfl, h5⟩
    · refine ⟨_, rfl, rfl, _, rfl, it_n (by decide) (it_n rfl ?_)⟩
      refine ⟨_, rfl, rfl, _, rfl, it_n (by decide) (it_n rfl ?_)⟩
      refine ⟨_, rfl, rfl, _, rfl, it_n (by decide) (it_n rfl ?_)⟩
      rcases d with _ | d
      · refine ⟨_, rfl, rfl, _, rfl, it_y (by decide) (it_y rfl ?_)⟩
        exact ordl _ g2
      · refine ⟨_, rfl, rfl, _, rfl, it_n (dn _) ?_⟩
        refine ⟨_, rfl, rfl, _, rfl, it_n (by decide) ?_⟩
        refine ⟨_, rfl, rfl, _, rfl, it_n (by decide) ?_⟩
        exact logic d rfl _ g2
  | 3, _ =>
    refine ⟨_, rfl, _, _, rfl, rfl, _, rfl, it_n (by decide) (it_n rfl ?_)⟩
    refine ⟨_, rfl, rfl, _, rfl, it_n (by decide) (it_n rfl ?_)⟩
    refine ⟨_, rfl, rfl, _, rfl, it_y (by decide) ?_⟩
    refine ⟨_, rfl, q, _, 0, _, rfl, rfl, SqL.of hq2, at0, a2, t.N, .options, rfl, ha2, ndN, lN, fun l3 H3 nl3 s3 h3 => ?_⟩
    refine ⟨l3, _, rfl, .inl (SqL.of h3), _, _, rfl, rfl, _, rfl, ite2 (fun c => ?_) (fun c => ?_)⟩
    · have nz : nmK t.N .options ≠ [] := fun e => by rw [e] at c; exact absurd c (by decide)
      have g3 := g2.s s3
      obtain ⟨a6, b6, c6, hq6, ha6, hb6, hc6, -⟩ := id (lsAll g3.1)
      refine ⟨_, rfl, _, rfl, q, _, 0, _, rfl, rfl, SqL.of hq6, at0, a6, t.N, .options, rfl, ha6, ndN, lN, fun l6 H6 nl6 s6 h6 => ?_⟩
      have g6 := g3.s s6
      refine ⟨p, l6, _, rfl, g6.2, h6, nz, by have := nmK_len t.N .options; omega, fun z H7 hz b7 bx7 => ?_⟩
      have g7 := g6.b b7 bx7
      refine ⟨le_line (by simp), fun l8 H8 nl8 s8 h8 => ⟨_, rfl, p, 2, rfl, by decide, (g7.s s8).2, fun j H9 hj b9 bx9 => ?_⟩⟩
      obtain ⟨o, ej⟩ := pick_ab j hj
      have h9 := b9 _ _ (fresh g7 nl8) h8
      refine ⟨l8, _, j, _, rfl, rfl, SqL.of h9, atI_nat ej, le_line (by simp), fun x H10 nx s10 h10 => ?_⟩
      exact k (.has z o) _ _ (.has (nmK_mem hz)) (Nat.zero_le _) (((g7.s s8).b b9 bx9).s s10) ⟨_, rfl, h10⟩
    · refine ⟨_, rfl, rfl, _, rfl, it_n (by decide) (it_n rfl ?_)⟩
      refine ⟨_, rfl, rfl, _, rfl, it_n (by decide) (it_n rfl ?_)⟩
      rcases d with _ | d
      · refine ⟨_, rfl, rfl, _, rfl, it_y (by decide) (it_y rfl ?_)⟩
        exact ordl _ (g2.s s3)
      · refine ⟨_, rfl, rfl, _, rfl, it_n (dn _) ?_⟩
        refine ⟨_, rfl, rfl, _, rfl, it_n (by decide) ?_⟩
        refine ⟨_, rfl, rfl, _, rfl, it_n (by decide) ?_⟩
        exact logic d rfl _ (g2.s s3)
  | 4, _ =>
    refine ⟨_, rfl, _, _, rfl, rfl, _, rfl, it_n (by decide) (it_n rfl ?_)⟩
    refine ⟨_, rfl, rfl, _, rfl, it_n (by decide) (it_n rfl ?_)⟩
    refine ⟨_, rfl, rfl, _, rfl, it_n (by decide) (it_n rfl ?_)⟩
    refine ⟨_, rfl, rfl, _, rfl, it_y (by decide) ?_⟩
    refine ⟨_, rfl, q, _, 0, _, rfl, rfl, SqL.of hq2, at0, a2, t.N, .option, rfl, ha2, ndN, lN, fun l3 H3 nl3 s3 h3 => ?_⟩
    refine ⟨l3, _, rfl, .inl (SqL.of h3), _, _, rfl, rfl, _, rfl, ite2 (fun c => ?_) (fun c => ?_)⟩
    · have nz : nmK t.N .option ≠ [] := fun e => by rw [e] at c; exact absurd c (by decide)
      have g3 := g2.s s3
      refine ⟨le_line (by simp), fun l4 H4 nl4 s4 h4 => ⟨_, rfl, p, 2, rfl, by decide, (g3.s s4).2, fun j H5 hj b5 bx5 => ?_⟩⟩
      obtain ⟨sg, hsg, ej⟩ := pick_eq j hj
      have h5 := b5 _ _ (fresh g3 nl4) h4
      have g5 := (g3.s s4).b b5 bx5
      refine ⟨l4, _, j, _, rfl, rfl, SqL.of h5, atI_nat ej, ?_⟩
      obtain ⟨a6, b6, c6, hq6, ha6, hb6, hc6, -⟩ := id (lsAll g5.1)
      refine ⟨_, rfl, _, rfl, q, _, 0, _, rfl, rfl, SqL.of hq6, at0, a6, t.N, .option, rfl, ha6, ndN, lN, fun l6 H6 nl6 s6 h6 => ?_⟩
      have g6 := g5.s s6
      refine ⟨p, l6, _, rfl, g6.2, h6, nz, by have := nmK_len t.N .option; omega, fun z H7 hz b7 bx7 => ⟨le_line (by simp), fun x H8 nx s8 h8 => ?_⟩⟩
      have g8 := (g6.b b7 bx7).s s8
      refine ⟨le_line (by simp), fun l9 H9 nl9 s9 h9 => ⟨_, rfl, p, 2, rfl, by decide, (g8.s s9).2, fun i H10 hi b10 bx10 => ?_⟩⟩
      obtain ⟨o, ei⟩ := pick_ab i hi
      have h10 := b10 _ _ (fresh g8 nl9) h9
      have g10 := (g8.s s9).b b10 bx10
      refine ⟨l9, _, i, _, rfl, rfl, SqL.of h10, atI_nat ei, le_line (by simp), fun y H11 ny s11 h11 => ⟨le_line (by simp), fun u H12 nu s12 h12 => ?_⟩⟩
      exact k (.op sg (.nam z) (.opt o)) _ _ (.same hsg (.nam (nmK_mem hz) rfl) (.opt o)) (by simp only [Ex.ht]; omega) ((g10.s s11).s s12)
        ⟨_, _, _, rfl, h12, ⟨_, rfl, s12 _ _ (s11 _ _ ((g8.s s9).2.tm b10 _ _ (s9 _ _ h8)))⟩, _, rfl, s12 _ _ h11⟩
    · refine ⟨_, rfl, rfl, _, rfl, it_n (by decide) (it_n rfl ?_)⟩
      rcases d with _ | d
      · refine ⟨_, rfl, rfl, _, rfl, it_y (by decide) (it_y rfl ?_)⟩
        exact ordl _ (g2.s s3)
      · refine ⟨_, rfl, rfl, _, rfl, it_n (dn _) ?_⟩
        refine ⟨_, rfl, rfl, _, rfl, it_n (by decide) ?_⟩
        refine ⟨_, rfl, rfl, _, rfl, it_n (by decide) ?_⟩
        exact logic d rfl _ (g2.s s3)
  | 5, _ =>
    refine ⟨_, rfl, _, _, rfl, rfl, _, rfl, it_n (by decide) (it_n rfl ?_)⟩
    refine ⟨_, rfl, rfl, _, rfl, it_n (by decide) (it_n rfl ?_)⟩
    refine ⟨_, rfl, rfl, _, rfl, it_n (by decide) (it_n rfl ?_)⟩
    refine ⟨_, rfl, rfl, _, rfl, it_n (by decide) (it_n rfl ?_)⟩
    refine ⟨_, rfl, rfl, _, rfl, it_y (by decide) ?_⟩
    refine ⟨_, rfl, q, _, 1, _, rfl, rfl, SqL.of hq2, at1, b2', t.O, .truth, rfl, hb2, ndO, lO, fun l3 H3 nl3 s3 h3 => ?_⟩
    refine ⟨l3, _, rfl, .inl (SqL.of h3), _, _, rfl, rfl, _, rfl, ite2 (fun c => ?_) (fun c => ?_)⟩
    · have nz : nmK t.O .truth ≠ [] := fun e => by rw [e] at c; exact absurd c (by decide)
      have g3 := g2.s s3
      refine ⟨le_line (by simp), fun l4 H4 nl4 s4 h4 => ⟨_, rfl, p, 2, rfl, by decide, (g3.s s4).2, fun j H5 hj b5 bx5 => ?_⟩⟩
      obtain ⟨fn, hfn, ej⟩ := pick_any j hj
      have h5 := b5 _ _ (fresh g3 nl4) h4
      have g5 := (g3.s s4).b b5 bx5
      refine ⟨l4, _, j, _, rfl, rfl, SqL.of h5, atI_nat ej, ?_⟩
      obtain ⟨a6, b6, c6, hq6, ha6, hb6, hc6, -⟩ := id (lsAll g5.1)
      refine ⟨_, rfl, _, rfl, q, _, 1, _, rfl, rfl, SqL.of hq6, at1, b6, t.O, .truth, rfl, hb6, ndO, lO, fun l6 H6 nl6 s6 h6 => ?_⟩
      have g6 := g5.s s6
      refine ⟨p, l6, _, rfl, g6.2, h6, nz, by have := nmK_len t.O .truth; omega, fun z H7 hz b7 bx7 => ⟨le_line (by simp), fun x H8 nx s8 h8 => ?_⟩⟩
      exact k (.ask fn z) _ _ (ty_any hfn (nmK_mem hz)) (Nat.zero_le _) ((g6.b b7 bx7).s s8) ⟨_, rfl, h8⟩
    · rcases d with _ | d
      · refine ⟨_, rfl, rfl, _, rfl, it_y (by decide) (it_y rfl ?_)⟩
        exact ordl _ (g2.s s3)
      · refine ⟨_, rfl, rfl, _, rfl, it_n (dn _) ?_⟩
        refine ⟨_, rfl, rfl, _, rfl, it_n (by decide) ?_⟩
        refine ⟨_, rfl, rfl, _, rfl, it_n (by decide) ?_⟩
        exact logic d rfl _ (g2.s s3)
  | 6, _ =>
    refine ⟨_, rfl, _, _, rfl, rfl, _, rfl, it_n (by decide) (it_n rfl ?_)⟩
    refine ⟨_, rfl, rfl, _, rfl, it_n (by decide) (it_n rfl ?_)⟩
    refine ⟨_, rfl, rfl, _, rfl, it_n (by decide) (it_n rfl ?_)⟩
    refine ⟨_, rfl, rfl, _, rfl, it_n (by decide) (it_n rfl ?_)⟩
    refine ⟨_, rfl, rfl, _, rfl, it_n (by decide) (it_n rfl ?_)⟩
    rcases d with _ | d
    · refine ⟨_, rfl, rfl, _, rfl, it_y (by decide) (it_y rfl ?_)⟩
      exact ordl _ g2
    · refine ⟨_, rfl, rfl, _, rfl, it_n (dn _) ?_⟩
      refine ⟨_, rfl, rfl, _, rfl, it_y (by decide) ?_⟩
      exact ordl _ g2
  | 7, _ =>
    refine ⟨_, rfl, _, _, rfl, rfl, _, rfl, it_n (by decide) (it_n rfl ?_)⟩
    refine ⟨_, rfl, rfl, _, rfl, it_n (by decide) (it_n rfl ?_)⟩
    refine ⟨_, rfl, rfl, _, rfl, it_n (by decide) (it_n rfl ?_)⟩
    refine ⟨_, rfl, rfl, _, rfl, it_n (by decide) (it_n rfl ?_)⟩
    refine ⟨_, rfl, rfl, _, rfl, it_n (by decide) (it_n rfl ?_)⟩
    rcases d with _ | d
    · refine ⟨_, rfl, rfl, _, rfl, it_y (by decide) (it_y rfl ?_)⟩
      exact ordl _ g2
    · refine ⟨_, rfl, rfl, _, rfl, it_n (dn _) ?_⟩
      refine ⟨_, rfl, rfl, _, rfl, it_n (by decide) ?_⟩
      refine ⟨_, rfl, rfl, _, rfl, it_y (by decide) ?_⟩
      have ed : [V.ref p, V.ref q, V.int (((d + 1 : Nat) : Int) - 1)] ++ [] = [V.ref p, V.ref q, V.int (d : Nat)] := by rw [show ((d + 1 : Nat) : Int) - 1 = (d : Nat) by omega]; rfl
      refine ⟨_, rfl, _, rfl, _, rfl, _, _, rfl, rfl, p, q, d, t, ed, by omega, g2.2, lsAll g2.1, fun e1 v1 H6 t1 x1 y1 a1 => ⟨le_line (by simp), fun x H7 nx s7 h7 => ?_⟩⟩
      exact k (.not e1) _ _ (.not t1) (by simp only [Ex.ht]; omega) ((g2.b y1.1 y1.2).s s7) ⟨_, _, rfl, h7, a1.tm (tm_same s7)⟩
  | 8, _ =>
    refine ⟨_, rfl, _, _, rfl, rfl, _, rfl, it_n (by decide) (it_n rfl ?_)⟩
    refine ⟨_, rfl, rfl, _, rfl, it_n (by decide) (it_n rfl ?_)⟩
    refine ⟨_, rfl, rfl, _, rfl, it_n (by decide) (it_n rfl ?_)⟩
    refine ⟨_, rfl, rfl, _, rfl, it_n (by decide) (it_n rfl ?_)⟩
    refine ⟨_, rfl, rfl, _, rfl, it_n (by decide) (it_n rfl ?_)⟩
    rcases d with _ | d
    · refine ⟨_, rfl, rfl, _, rfl, it_y (by decide) (it_y rfl ?_)⟩
      exact ordl _ g2
    · refine ⟨_, rfl, rfl, _, rfl, it_n (dn _) ?_⟩
      refine ⟨_, rfl, rfl, _, rfl, it_n (by decide) ?_⟩
      refine ⟨_, rfl, rfl, _, rfl, it_n (by decide) ?_⟩
      exact logic d rfl _ g2
  | m + 9, hm => exact absurd hm (by omega)
theorem num_none {f : Addr} {fd : FuncData} : FnOk P w K mg base CX0 3 f fd ["_law_box", "_law_scope", "_law_depth"] (spNum 0) := by
  have no : ∀ vs H Q E, ¬ spNum 0 vs H Q E := fun vs H Q E h => by
    obtain ⟨_, _, _, _, _, h2, _⟩ := h
    omega
  exact ⟨fun vs H Q E h => absurd h (no vs H Q E), fun A outer s H args us vs Q E _ _ _ _ h => absurd h (no vs H Q E)⟩
theorem tru_none {f : Addr} {fd : FuncData} : FnOk P w K mg base CX0 4 f fd ["_law_box", "_law_scope", "_law_depth"] (spTru 0) := by
  have no : ∀ vs H Q E, ¬ spTru 0 vs H Q E := fun vs H Q E h => by
    obtain ⟨_, _, _, _, _, h2, _⟩ := h
    omega
  exact ⟨fun vs H Q E h => absurd h (no vs H Q E), fun A outer s H args us vs Q E _ _ _ _ h => absurd h (no vs H Q E)⟩
theorem all_numtru {f1 f2 : Addr} {fd1 fd2 : FuncData} (T : Txt K mg w cSc cSv aW aP aN aO aA)
    (F1 : Fun K "_law_number" "_law_number" s_law_number f1 fd1) (b1 : Binds K fd1 ["_law_box", "_law_scope", "_law_depth"] []) (m1 : mg "_law_number" = some (.ref f1)) (k1 : PySem.W.keepIn K (.ref f1) = true)
    (F2 : Fun K "_law_truth" "_law_truth" s_law_truth f2 fd2) (b2 : Binds K fd2 ["_law_box", "_law_scope", "_law_depth"] []) (m2 : mg "_law_truth" = some (.ref f2)) (k2 : PySem.W.keepIn K (.ref f2) = true)
    (G_law_draw : Has P w K mg base "_law_draw" 1 ["_law_box", "_law_many"] spDraw) (G_law_pick : Has P w K mg base "_law_pick" 2 ["_law_box", "_law_rows"] spPick) (G_law_named : Has P w K mg base "_law_named" 1 ["_law_kinds", "_law_kind"] spNamed) :
    ∀ n : Nat, Has P w K mg base "_law_number" (2 * n + 3) ["_law_box", "_law_scope", "_law_depth"] (spNum n) ∧ Has P w K mg base "_law_truth" (2 * n + 4) ["_law_box", "_law_scope", "_law_depth"] (spTru n)
  | 0 => ⟨⟨f1, fd1, num_none, m1, k1, b1⟩, ⟨f2, fd2, tru_none, m2, k2, b2⟩⟩
  | n + 1 => by
    obtain ⟨i1, i2⟩ := all_numtru T F1 b1 m1 k1 F2 b2 m2 k2 G_law_draw G_law_pick G_law_named n
    have j1 : Has P w K mg base "_law_number" (2 * n + 5) ["_law_box", "_law_scope", "_law_depth"] (spNum (n + 1)) := ⟨f1, fd1, ok_number T F1 G_law_draw G_law_pick G_law_named i1 i2, m1, k1, b1⟩
    exact ⟨j1, ⟨f2, fd2, ok_truth T F2 G_law_draw G_law_pick G_law_named j1 i2, m2, k2, b2⟩⟩
end
end FF
/-! The generator: conditions, kinds of question, fields. -/
namespace FF
open PySem L2
theorem ox_shape {H : Hp} {o : Option Ex} {v : V} (h : OxAt H o v) : v = .non ∨ ∃ a, v = .ref a := by
  cases o with
  | none => exact .inl h
  | some e =>
    obtain ⟨a, xs, e, _⟩ := ExAt.ref h
    exact .inr ⟨a, e⟩
def OLow (o : Option Ex) : Prop := ∀ e, o = some e → e.ht ≤ 4
theorem olow_none : OLow none := fun e h => (by cases h)
theorem tyo_none {t : Ts} {k : Kd} : TyO t k none := fun e h => (by cases h)
theorem olow_some {e : Ex} (h : e.ht ≤ 4) : OLow (some e) := fun x y => by cases y; exact h
theorem tyo_some {t : Ts} {k : Kd} {e : Ex} (h : Ty t k e) : TyO t k (some e) := fun x y => by cases y; exact h
def spCond : Sp := fun vs H Q _ => ∃ (p q : Addr) (t : Ts), vs = [.ref p, .ref q] ∧ BxAt H p ∧ LsAt H q t ∧ ∀ o v H', TyO t .truth o → OLow o → Gn p H H' → OxAt H' o v → Q v H'
def spQk : Sp := fun vs H Q _ => ∃ (p q : Addr) (t : Ts), vs = [.ref p, .ref q] ∧ BxAt H p ∧ LsAt H q t ∧ ∀ k a H', QOK t k → (∀ e ∈ qExprs k, e.ht ≤ 4) → Gn p H H' → QkAt H' k (.ref a) → Q (.ref a) H'
def spFld : Sp := fun vs H Q _ => ∃ (p q : Addr) (x : Str) (t : Ts), vs = [.ref p, .str x, .ref q] ∧ BxAt H p ∧ LsAt H q t ∧
  ∀ (d : DF) a v H', d.1.name = x → FOK t d → (∀ e ∈ exprsM d.1, e.ht ≤ 4) → Gn p H H' → H' a = some (.tup [v, oV d.2]) → FldAt H' v d.1 → Q (.ref a) H'
theorem BxAt.new {H H' : Hp} {p l : Addr} {x y : V} (h : BxAt H p) (b : But l H H') (e : H l = some (.lst [x, y])) (hx : x = .non ∨ ∃ a, x = .ref a) (hy : y = .non ∨ ∃ a, y = .ref a) : BxAt H' p := by
  refine h.but b (fun q n z => ?_) (fun ds nz z => ?_)
  · rw [e] at z
    rcases hy with rfl | ⟨a, rfl⟩ <;> cases z
  · rw [e] at z
    cases ds with
    | nil => cases z
    | cons d ds => rcases hx with rfl | ⟨a, rfl⟩ <;> cases z
def qWord : Qk → Str
  | .truth => "truth" | .integer _ _ => "integer" | .opts m _ => multiZ m | .text => "text"
theorem QkAt.word {H : Hp} {k : Qk} {a : Addr} (h : QkAt H k (.ref a)) : ∃ r, H a = some (.tup (.str (qWord k) :: r)) := by
  cases k with
  | truth => obtain ⟨a', e, h⟩ := h; cases e; exact ⟨_, h⟩
  | text => obtain ⟨a', e, h⟩ := h; cases e; exact ⟨_, h⟩
  | integer lo hi => obtain ⟨a', x, y, e, h, _⟩ := h; cases e; exact ⟨_, h⟩
  | opts m os => obtain ⟨a', b, vs, e, h, _⟩ := h; cases e; exact ⟨_, h⟩
def toldK : List (Key × V) := [(.inr "integer", .str "number"), (.inr "text", .str "text"), (.inr "choice", .str "option"), (.inr "choices", .str "options"), (.inr "truth", .str "truth")]
theorem told_word (k : Qk) : some (V.str k.kd.z) = valV (mergeK [] toldK) (.inr (qWord k)) := by
  cases k with
  | truth => decide +kernel
  | text => decide +kernel
  | integer lo hi => show some (V.str "number") = valV (mergeK [] toldK) (.inr "integer"); decide +kernel
  | opts m os =>
    cases m with
    | false => show some (V.str "option") = valV (mergeK [] toldK) (.inr "choice"); decide +kernel
    | true => show some (V.str "options") = valV (mergeK [] toldK) (.inr "choices"); decide +kernel
section
variable {P : Program} {w : World} {K : PySem.W.Frag} {mg : Str → Option Value} {base : Heap} {cSc cSv aW aP aN aO aA : Addr}
abbrev s_law_condition : Stmt := top 32
theorem sc_law_condition : FnScope ["_law_box", "_law_scope"] ["_law_box", "_law_scope"] (defScope s_law_condition) := ⟨rfl, rfl, rfl, by decide +kernel, rfl, by decide +kernel, by decide +kernel⟩
theorem ok_condition {f : Addr} {fd : FuncData} (T : Txt K mg w cSc cSv aW aP aN aO aA) (F : Fun K "_law_condition" "_law_condition" s_law_condition f fd)
    (G_law_draw : Has P w K mg base "_law_draw" 1 ["_law_box", "_law_many"] spDraw) (G_law_truth : Has P w K mg base "_law_truth" 10 ["_law_box", "_law_scope", "_law_depth"] (spTru 3)) :
    FnOk P w K mg base CX0 11 f fd ["_law_box", "_law_scope"] spCond := by
  refine F.ok sc_law_condition (fun vs H Q E h => ?_) (fun cdv A outer s H vs Q E hr h => ?_)
  · obtain ⟨p, q, t, rfl, _⟩ := h
    rfl
  obtain ⟨p, q, t, rfl, bx, ls, k⟩ := h
  refine ⟨_, (pss_cons (ps_if (pt_cmpR op_eq (pe_callH G_law_draw (hr.mono (by omega)) (by rfl) (pa_cons (pv 0) (pa_cons pe_int pa_nil))) pe_int (nomark _))
        (pss_one (ps_ret pe_non))
        pss_nil)
      (pss_one (ps_ret (pe_callH G_law_truth (hr.mono (by omega)) (by rfl) (pa_cons (pv 0) (pa_cons (pv 1) (pa_cons pe_int pa_nil))))))), ?_⟩
  refine ⟨_, rfl, p, 2, rfl, by decide, bx, fun m H1 hm b1 bx1 => ?_⟩
  refine ⟨rfl, _, rfl, ite2 (fun c => ?_) (fun c => ?_)⟩
  · exact k none _ _ tyo_none olow_none ⟨b1, bx1⟩ rfl
  · exact ⟨_, rfl, _, rfl, p, q, 1, t, rfl, by omega, bx1, ls.but bx b1, fun e v H2 te he g2 ea => k (some e) v H2 (tyo_some te) (olow_some (by omega)) (Gn.b ⟨b1, bx1⟩ g2.1 g2.2) ea⟩
abbrev s_law_question_kind : Stmt := top 33
theorem sc_law_question_kind : FnScope ["_law_box", "_law_scope", "_law_kind", "_law_bounds", "_law_at", "_law_options"] ["_law_box", "_law_scope"] (defScope s_law_question_kind) := ⟨rfl, rfl, rfl, by decide +kernel, rfl, by decide +kernel, by decide +kernel⟩
theorem ok_question_kind {f : Addr} {fd : FuncData} (T : Txt K mg w cSc cSv aW aP aN aO aA) (F : Fun K "_law_question_kind" "_law_question_kind" s_law_question_kind f fd)
    (G_law_draw : Has P w K mg base "_law_draw" 1 ["_law_box", "_law_many"] spDraw) (G_law_number : Has P w K mg base "_law_number" 9 ["_law_box", "_law_scope", "_law_depth"] (spNum 3)) (G_law_condition : Has P w K mg base "_law_condition" 11 ["_law_box", "_law_scope"] spCond) :
    FnOk P w K mg base CX0 12 f fd ["_law_box", "_law_scope"] spQk := by
  refine F.ok sc_law_question_kind (fun vs H Q E h => ?_) (fun cdv A outer s H vs Q E hr h => ?_)
  · obtain ⟨p, q, t, rfl, _⟩ := h
    rfl
  obtain ⟨p, q, t, rfl, bx, ls, k⟩ := h
  refine ⟨_, (pss_cons (ps_set (i := 2) sc_law_question_kind.nd rfl (Or.inl rfl) (pe_callH G_law_draw (hr.mono (by omega)) (by rfl) (pa_cons (pv 0) (pa_cons pe_int pa_nil))))
      (pss_cons (ps_if (pt_cmpR op_lt (pv 2) pe_int (nomark _))
        (pss_cons (ps_set (i := 3) sc_law_question_kind.nd rfl (Or.inl rfl) (pe_lstN (pa_cons pe_non (pa_cons pe_non pa_nil))))
        (pss_cons (ps_for PassesOwn.never rfl (pi_range1 (by rfl) T.range (pa_cons pe_int pa_nil)) (pg_name (i := 4) sc_law_question_kind.nd rfl (Or.inl rfl) (hf := Or.inl rfl))
          (pss_one (ps_if (pt_cmpR op_eq (pe_callH G_law_draw (hr.mono (by omega)) (by rfl) (pa_cons (pv 0) (pa_cons pe_int pa_nil))) pe_int (nomark _))
            (pss_one (ps_asg (pe_callH G_law_number (hr.mono (by omega)) (by rfl) (pa_cons (pv 0) (pa_cons (pv 1) (pa_cons pe_int pa_nil)))) (pg_sub (pv 3) (pv 4) set_listN)))
            pss_nil)))
        (pss_one (ps_ret (pe_tupN (pa_cons pe_str (pa_cons (pe_ix (r := rIxL K) ix_list (pv 3) pe_int (fun _ _ => rfl)) (pa_cons (pe_ix (r := rIxL K) ix_list (pv 3) pe_int (fun _ _ => rfl)) pa_nil))))))))
        pss_nil)
      (pss_cons (ps_if (pt_cmpR op_eq (pv 2) pe_int (nomark _))
        (pss_one (ps_ret (pe_tupN (pa_cons pe_str (pa_cons pe_int pa_nil)))))
        pss_nil)
      (pss_cons (ps_if (pt_cmpR op_lt (pv 2) pe_int (nomark _))
        (pss_cons (ps_set (i := 5) sc_law_question_kind.nd rfl (Or.inl rfl) (pe_tupN (pa_cons (pe_tupN (pa_cons pe_str (pa_cons pe_non pa_nil))) (pa_cons (pe_tupN (pa_cons pe_str (pa_cons (pe_callH G_law_condition (hr.mono (by omega)) (by rfl) (pa_cons (pv 0) (pa_cons (pv 1) pa_nil))) pa_nil))) (pa_cons (pe_tupN (pa_cons pe_str (pa_cons (pe_callH G_law_condition (hr.mono (by omega)) (by rfl) (pa_cons (pv 0) (pa_cons (pv 1) pa_nil))) pa_nil))) pa_nil)))))
        (pss_one (ps_ret (pe_tupN (pa_cons (pe_ix (r := rIxL K) ix_list (pe_lstN (pa_cons pe_str (pa_cons pe_str pa_nil))) (pe_callTy call_int1 (by rfl) T.int (by decide +kernel) (pa_cons (pe_cmpR op_eq (pv 2) pe_int (nomark _)) pa_nil)) (fun _ _ => rfl)) (pa_cons (pe_slice sl_tupN (pv 5) (po_some (pe_callH G_law_draw (hr.mono (by omega)) (by rfl) (pa_cons (pv 0) (pa_cons pe_int pa_nil)))) po_none) pa_nil))))))
        pss_nil)
      (pss_one (ps_ret (pe_tupN (pa_cons pe_str pa_nil)))))))), ?_⟩
  have lsAll := fun {H'} (g : But p H H') => LsAt.but bx g ls
  have fresh : ∀ {H3 : Hp} {l : Addr}, Gn p H H3 → H3 l = none → l ≠ p := fun g nl => by
    rintro rfl
    obtain ⟨u, ds, n', e1, _⟩ := g.2
    rw [e1] at nl
    cases nl
  refine ⟨_, rfl, p, 6, rfl, by decide, bx, fun m H1 hm b1 bx1 => ?_⟩
  have g1 : Gn p H H1 := ⟨b1, bx1⟩
  have mid : ∀ m' : Nat, ((m' : Nat) : Int) < 6 → ∃ b : Bool, [V.str "choice", V.str "choices"][if decide (V.int (m' : Nat) = V.int 4) = true then 1 else 0]? = some (.str (multiZ b)) := fun m' _ => by
    by_cases c : decide (V.int (m' : Nat) = V.int 4) = true
    · rw [if_pos c]; exact ⟨true, rfl⟩
    · rw [if_neg c]; exact ⟨false, rfl⟩
  refine ⟨_, rfl, _, _, rfl, rfl, _, rfl, ite2 (fun c0 => ?_) (fun c0 => ?_)⟩
  · refine ⟨le_line (by simp), fun l H2 nl2 s2 h2 => ?_⟩
    have nl : H l = none := by
      cases e : H l with
      | none => rfl
      | some o =>
        have np : l ≠ p := fresh g1 nl2
        rw [b1 _ _ np e] at nl2
        cases nl2
    refine ⟨2, rfl, by decide, by decide, ?_⟩
    refine for_range (fun i σ H' => ∃ (u4 u5 : Option V) (lo hi : Option Ex) (x y : V), σ = [some (.ref p), some (.ref q), some (.int (m : Nat)), some (.ref l), u4, u5] ∧ Gn p H H' ∧ H' l = some (.lst [x, y]) ∧ OxAt H' lo x ∧ OxAt H' hi y ∧ TyO t .number lo ∧ TyO t .number hi ∧ OLow lo ∧ OLow hi)
      ⟨none, none, none, none, .non, .non, rfl, g1.s s2, h2, rfl, rfl, tyo_none, tyo_none, olow_none, olow_none⟩ ?_ ?_
    · rintro i σ H3 hi ⟨u4, u5, lo, up, x, y, rfl, g3, h3, ox, oy, tx, ty, lx, ly⟩
      have hi : i < 2 := hi
      have np : l ≠ p := by
        rintro rfl
        obtain ⟨u, ds, n', e1, _⟩ := g3.2
        rw [e1] at h3
        rcases ox_shape oy with rfl | ⟨a, rfl⟩ <;> cases h3
      refine ⟨_, rfl, p, 2, rfl, by decide, g3.2, fun j H4 hj b4 bx4 => ?_⟩
      have g4 := g3.b b4 bx4
      have t4 := g3.2.tm b4
      have h4 := b4 _ _ np h3
      refine ⟨rfl, _, rfl, ite2 (fun c => ?_) (fun c => ?_)⟩
      · refine ⟨_, rfl, _, rfl, p, q, 0, t, rfl, by omega, bx4, lsAll g4.1, fun e v H5 te he g5' ea => ?_⟩
        have g5 := g4.b g5'.1 g5'.2
        have t5 := t4.trans (bx4.tm g5'.1)
        have h5 := g5'.1 _ _ np h4
        match i, hi with
        | 0, _ =>
          refine ⟨_, rfl, _, rfl, l, _, 0, 0, rfl, rfl, h5, rfl, fun H6 b6 h6 => ?_⟩
          have t6 := tm_lst b6 h5
          exact ⟨_, _, some e, up, v, y, rfl, ⟨g5.1.but b6 nl, g5.2.new b6 h5 (ox_shape ox) (ox_shape oy)⟩, h6, OxAt.tm t6 (o := some e) ea, (oy.tm t5).tm t6, tyo_some te, ty, olow_some (by omega), ly⟩
        | 1, _ =>
          refine ⟨_, rfl, _, rfl, l, _, 1, 1, rfl, rfl, h5, rfl, fun H6 b6 h6 => ?_⟩
          have t6 := tm_lst b6 h5
          exact ⟨_, _, lo, some e, x, v, rfl, ⟨g5.1.but b6 nl, g5.2.new b6 h5 (ox_shape ox) (ox_shape oy)⟩, h6, (ox.tm t5).tm t6, OxAt.tm t6 (o := some e) ea, tx, tyo_some te, lx, olow_some (by omega)⟩
      · exact ⟨_, _, lo, up, x, y, rfl, g4, h4, ox.tm t4, oy.tm t4, tx, ty, lx, ly⟩
    · rintro σ H3 ⟨u4, u5, lo, up, x, y, rfl, g3, h3, ox, oy, tx, ty, lx, ly⟩
      refine ⟨_, rfl, l, _, 0, _, rfl, rfl, SqL.of h3, at0, _, rfl, l, _, 1, _, rfl, rfl, SqL.of h3, at1, le_line (by simp), fun a H4 na s4 h4 => ?_⟩
      refine k (.integer lo up) a H4 ⟨tx, ty⟩ (fun e he => ?_) (g3.s s4) ⟨a, x, y, rfl, h4, ox.tm (tm_same s4), oy.tm (tm_same s4)⟩
      rcases List.mem_append.mp he with he | he
      · exact lx e (Option.mem_toList.mp he)
      · exact ly e (Option.mem_toList.mp he)
  · refine ⟨_, rfl, rfl, _, rfl, ite2 (fun c => ?_) (fun c => ?_)⟩
    · exact ⟨le_line (by simp), fun a H4 na s4 h4 => k .text a H4 trivial (fun e he => absurd he (by simp [qExprs])) (g1.s s4) ⟨a, rfl, h4⟩⟩
    refine ⟨_, rfl, _, _, rfl, rfl, _, rfl, ite2 (fun c => ?_) (fun c => ?_)⟩
    · refine ⟨le_line (by simp), fun a1 H2 na1 s2 h2 => ?_⟩
      have g2 := g1.s s2
      refine ⟨_, rfl, _, rfl, p, q, t, rfl, g2.2, lsAll g2.1, fun o1 v1 H3 t1 l1 g3' x1 => ⟨le_line (by simp), fun a2 H4 na2 s4 h4 => ?_⟩⟩
      have g3 := g2.b g3'.1 g3'.2
      have g4 := g3.s s4
      refine ⟨_, rfl, _, rfl, p, q, t, rfl, g4.2, lsAll g4.1, fun o2 v2 H5 t2 l2 g5' x2 => ⟨le_line (by simp), fun a3 H6 na3 s6 h6 => ⟨le_line (by simp), fun a4 H7 na4 s7 h7 => ?_⟩⟩⟩
      have g5 := g4.b g5'.1 g5'.2
      have g7 := (g5.s s6).s s7
      have t67 := (tm_same s6).trans (tm_same s7)
      have t57 := (g4.2.tm g5'.1).trans t67
      have t47 := (tm_same s4).trans t57
      have t27 := (g2.2.tm g3'.1).trans t47
      have w1 := t27 _ _ h2
      have w2 := t57 _ _ h4
      have w3 := tm_same s7 _ _ h6
      refine ⟨le_line (by simp), fun l8 H8 nl8 s8 h8 => ?_⟩
      obtain ⟨b, eb⟩ := mid m hm
      refine ⟨_, rfl, rfl, .inr ⟨_, rfl, l8, _, ((if decide (V.int (m : Nat) = V.int 4) = true then 1 else 0 : Nat) : Int), _, rfl, ?_, SqL.of h8, atI_nat eb, ?_⟩⟩
      · by_cases c : decide (V.int (m : Nat) = V.int 4) = true
        · rw [if_pos c, if_pos c]; rfl
        · rw [if_neg c, if_neg c]; rfl
      have g8 := g7.s s8
      refine ⟨_, rfl, _, rfl, p, 2, rfl, by decide, g8.2, fun j H9 hj b9 bx9 => ?_⟩
      have g9 := g8.b b9 bx9
      have t79 := (tm_same s8).trans (g8.2.tm b9)
      have w4 := t79 _ _ h7
      refine ⟨_, rfl, a4, _, rfl, w4, fun a5 H10 s10 h10 => ⟨le_line (by simp), fun a6 H11 na6 s11 h11 => ?_⟩⟩
      have hj3 : j ≤ 3 := by omega
      rw [cut_from (xs := [V.ref a1, V.ref a2, V.ref a3]) (n := j) hj3] at h10
      have g11 := (g9.s s10).s s11
      have ta := (tm_same s10).trans (tm_same s11)
      have t7 := t79.trans ta
      have all : All2 (OpAt H11) [V.ref a1, V.ref a2, V.ref a3] [("a", none), ("b", o1), ("c", o2)] :=
        ⟨⟨a1, .non, rfl, t7 _ _ (tm_same s7 _ _ (tm_same s6 _ _ (g4.2.tm g5'.1 _ _ (tm_same s4 _ _ (g2.2.tm g3'.1 _ _ h2))))), rfl⟩, ⟨a2, v1, rfl, t7 _ _ w2, ((x1.tm t47).tm t7)⟩, ⟨a3, v2, rfl, t7 _ _ w3, ((x2.tm t67).tm t7)⟩, trivial⟩
      refine k (.opts b (([("a", none), ("b", o1), ("c", o2)] : List (Str × Option Ex)).drop j)) a6 H11 (fun y hy => ?_) (fun e he => ?_) g11 ⟨a6, a5, _, rfl, h11, s11 _ _ h10, All2.drop j all, ?_, by rw [List.length_drop]; exact Nat.le_trans (Nat.sub_le ..) (by simp)⟩
      · have := List.mem_of_mem_drop hy
        simp only [List.mem_cons, List.not_mem_nil, or_false] at this
        rcases this with rfl | rfl | rfl
        · exact tyo_none
        · exact t1
        · exact t2
      · obtain ⟨y, hy, ey⟩ := List.mem_filterMap.mp he
        have := List.mem_of_mem_drop hy
        simp only [List.mem_cons, List.not_mem_nil, or_false] at this
        rcases this with rfl | rfl | rfl
        · cases ey
        · exact l1 e ey
        · exact l2 e ey
      · rw [List.map_drop]
        exact List.Nodup.sublist (List.drop_sublist _ _) (show (["a", "b", "c"] : List Str).Nodup by decide +kernel)
    · exact ⟨le_line (by simp), fun a H4 na s4 h4 => k .truth a H4 trivial (fun e he => absurd he (by simp [qExprs])) (g1.s s4) ⟨a, rfl, h4⟩⟩
abbrev s_law_field : Stmt := top 34
theorem sc_law_field : FnScope ["_law_box", "_law_name", "_law_scope", "_law_kind", "_law_condition_here", "_law_question", "_law_told"] ["_law_box", "_law_name", "_law_scope"] (defScope s_law_field) := ⟨rfl, rfl, rfl, by decide +kernel, rfl, by decide +kernel, by decide +kernel⟩
theorem ok_field {f : Addr} {fd : FuncData} (T : Txt K mg w cSc cSv aW aP aN aO aA) (F : Fun K "_law_field" "_law_field" s_law_field f fd)
    (G_law_draw : Has P w K mg base "_law_draw" 1 ["_law_box", "_law_many"] spDraw) (G_law_number : Has P w K mg base "_law_number" 9 ["_law_box", "_law_scope", "_law_depth"] (spNum 3)) (G_law_truth : Has P w K mg base "_law_truth" 10 ["_law_box", "_law_scope", "_law_depth"] (spTru 3))
    (G_law_condition : Has P w K mg base "_law_condition" 11 ["_law_box", "_law_scope"] spCond) (G_law_question_kind : Has P w K mg base "_law_question_kind" 12 ["_law_box", "_law_scope"] spQk) :
    FnOk P w K mg base CX0 13 f fd ["_law_box", "_law_name", "_law_scope"] spFld := by
  refine F.ok sc_law_field (fun vs H Q E h => ?_) (fun cdv A outer s H vs Q E hr h => ?_)
  · obtain ⟨p, q, x, t, rfl, _⟩ := h
    rfl
  obtain ⟨p, q, x, t, rfl, bx, ls, k⟩ := h
  have hu := hu_of hr
  refine ⟨_, (pss_cons (ps_set (i := 3) sc_law_field.nd rfl (Or.inl rfl) (pe_callH G_law_draw (hr.mono (by omega)) (by rfl) (pa_cons (pv 0) (pa_cons pe_int pa_nil))))
      (pss_cons (ps_set (i := 4) sc_law_field.nd rfl (Or.inl rfl) (pe_callH G_law_condition (hr.mono (by omega)) (by rfl) (pa_cons (pv 0) (pa_cons (pv 2) pa_nil))))
      (pss_cons (ps_if (pt_cmpR op_eq (pv 3) pe_int (nomark _))
        (pss_one (ps_ret (pe_tupN (pa_cons (pe_tupN (pa_cons pe_str (pa_cons (pv 1) (pa_cons (pv 4) (pa_cons (pe_callH G_law_truth (hr.mono (by omega)) (by rfl) (pa_cons (pv 0) (pa_cons (pv 2) (pa_cons pe_int pa_nil)))) (pa_cons pe_str (pa_cons (pe_cmpR op_eq (pe_callH G_law_draw (hr.mono (by omega)) (by rfl) (pa_cons (pv 0) (pa_cons pe_int pa_nil))) pe_int (nomark _)) pa_nil))))))) (pa_cons pe_non pa_nil)))))
        pss_nil)
      (pss_cons (ps_if (pt_cmpR op_eq (pv 3) pe_int (nomark _))
        (pss_one (ps_ret (pe_tupN (pa_cons (pe_tupN (pa_cons pe_str (pa_cons (pv 1) (pa_cons (pv 4) (pa_cons (pe_callH G_law_number (hr.mono (by omega)) (by rfl) (pa_cons (pv 0) (pa_cons (pv 2) (pa_cons pe_int pa_nil)))) pa_nil))))) (pa_cons pe_str pa_nil)))))
        pss_nil)
      (pss_cons (ps_if (pt_cmpR op_eq (pv 3) pe_int (nomark _))
        (pss_one (ps_ret (pe_tupN (pa_cons (pe_tupN (pa_cons pe_str (pa_cons (pv 1) (pa_cons (pv 4) (pa_cons (pe_callH G_law_truth (hr.mono (by omega)) (by rfl) (pa_cons (pv 0) (pa_cons (pv 2) (pa_cons pe_int pa_nil)))) pa_nil))))) (pa_cons pe_str pa_nil)))))
        pss_nil)
      (pss_cons (ps_set (i := 5) sc_law_field.nd rfl (Or.inl rfl) (pe_callH G_law_question_kind (hr.mono (by omega)) (by rfl) (pa_cons (pv 0) (pa_cons (pv 2) pa_nil))))
      (pss_cons (ps_set (i := 6) sc_law_field.nd rfl (Or.inl rfl) (pe_dget hu (pe_disp (pps_cons pe_str pe_str (pps_cons pe_str pe_str (pps_cons pe_str pe_str (pps_cons pe_str pe_str (pps_cons pe_str pe_str pps_nil))))) (by rfl) (by rfl) (fun z => by cases z) (by decide)) (pe_ix (r := rIxT K) ix_tup (pv 5) pe_int (fun _ _ => rfl)) (fun _ _ => rfl)))
      (pss_one (ps_ret (pe_tupN (pa_cons (pe_tupN (pa_cons pe_str (pa_cons (pv 1) (pa_cons (pv 4) (pa_cons (pv 5) (pa_cons (pe_cmpR op_eq (pe_callH G_law_draw (hr.mono (by omega)) (by rfl) (pa_cons (pv 0) (pa_cons pe_int pa_nil))) pe_int (nomark _)) pa_nil)))))) (pa_cons (pv 6) pa_nil)))))))))))), ?_⟩
  have lsAll := fun {H'} (g : But p H H') => LsAt.but bx g ls
  refine ⟨_, rfl, p, 6, rfl, by decide, bx, fun m H1 hm b1 bx1 => ?_⟩
  have g1 : Gn p H H1 := ⟨b1, bx1⟩
  refine ⟨_, rfl, _, rfl, p, q, t, rfl, bx1, lsAll b1, fun o v H2 to lo g2' xo => ?_⟩
  have g2 := g1.b g2'.1 g2'.2
  have oe : ∀ (b : Fb) e, e ∈ exprsM ⟨x, o, b⟩ → e ∈ bExprs b ∨ e.ht ≤ 4 := fun b e he => by
    rcases List.mem_append.mp he with he | he
    · exact .inr (lo e (Option.mem_toList.mp he))
    · exact .inl he
  refine ⟨_, rfl, rfl, _, rfl, ite2 (fun c => ?_) (fun c => ?_)⟩
  · refine ⟨_, rfl, _, rfl, _, rfl, _, rfl, p, q, 1, t, rfl, by omega, g2.2, lsAll g2.1, fun e v3 H3 te he g3' ea => ?_⟩
    have g3 := g2.b g3'.1 g3'.2
    refine ⟨_, rfl, p, 2, rfl, by decide, g3.2, fun j H4 hj b4 bx4 => ⟨rfl, le_line (by simp), fun a5 H5 na5 s5 h5 => ⟨le_line (by simp), fun a6 H6 na6 s6 h6 => ?_⟩⟩⟩
    have t36 := ((g3.2.tm b4).trans (tm_same s5)).trans (tm_same s6)
    have t26 := (g2.2.tm g3'.1).trans t36
    refine k (⟨x, o, .rl e (decide (V.int (j : Nat) = V.int 0))⟩, none) a6 (.ref a5) H6 rfl ⟨to, rfl, te⟩ (fun e' he' => ?_) (((g3.b b4 bx4).s s5).s s6) h6 ⟨a5, v, v3, rfl, s6 _ _ h5, xo.tm t26, ea.tm t36⟩
    rcases oe _ _ he' with h | h
    · cases List.mem_singleton.mp h
      omega
    · exact h
  refine ⟨_, rfl, rfl, _, rfl, ite2 (fun c => ?_) (fun c => ?_)⟩
  · refine ⟨_, rfl, _, rfl, _, rfl, _, rfl, p, q, 2, t, rfl, by omega, g2.2, lsAll g2.1, fun e v3 H3 te he g3' ea => ⟨le_line (by simp), fun a5 H5 na5 s5 h5 => ⟨le_line (by simp), fun a6 H6 na6 s6 h6 => ?_⟩⟩⟩
    have g3 := g2.b g3'.1 g3'.2
    have t36 := (tm_same s5).trans (tm_same s6)
    have t26 := (g2.2.tm g3'.1).trans t36
    refine k (⟨x, o, .fm e⟩, some .number) a6 (.ref a5) H6 rfl ⟨to, .number, rfl, rfl, te⟩ (fun e' he' => ?_) ((g3.s s5).s s6) h6 ⟨a5, v, v3, rfl, s6 _ _ h5, xo.tm t26, ea.tm t36⟩
    rcases oe _ _ he' with h | h
    · cases List.mem_singleton.mp h
      omega
    · exact h
  refine ⟨_, rfl, rfl, _, rfl, ite2 (fun c => ?_) (fun c => ?_)⟩
  · refine ⟨_, rfl, _, rfl, _, rfl, _, rfl, p, q, 1, t, rfl, by omega, g2.2, lsAll g2.1, fun e v3 H3 te he g3' ea => ⟨le_line (by simp), fun a5 H5 na5 s5 h5 => ⟨le_line (by simp), fun a6 H6 na6 s6 h6 => ?_⟩⟩⟩
    have g3 := g2.b g3'.1 g3'.2
    have t36 := (tm_same s5).trans (tm_same s6)
    have t26 := (g2.2.tm g3'.1).trans t36
    refine k (⟨x, o, .fm e⟩, some .truth) a6 (.ref a5) H6 rfl ⟨to, .truth, rfl, rfl, te⟩ (fun e' he' => ?_) ((g3.s s5).s s6) h6 ⟨a5, v, v3, rfl, s6 _ _ h5, xo.tm t26, ea.tm t36⟩
    rcases oe _ _ he' with h | h
    · cases List.mem_singleton.mp h
      omega
    · exact h
  refine ⟨_, rfl, _, rfl, p, q, t, rfl, g2.2, lsAll g2.1, fun qk a3 H3 tq hq g3' qa => ?_⟩
  have g3 := g2.b g3'.1 g3'.2
  obtain ⟨r, h3⟩ := qa.word
  refine fun pd npd => ⟨upd_same, toldK, rfl, by decide, ?_⟩
  have s4 : Same H3 (upd (upd H3 pd (.dK [])) pd (.dK (mergeK [] toldK))) := fun b o hb => by
    have n := ne_of_none hb npd
    rw [upd_ne n, upd_ne n]
    exact hb
  refine ⟨_, rfl, a3, _, 0, _, rfl, rfl, sq_tup (s4 _ _ h3), at0, pd, _, rfl, .inl ⟨_, .inr (qWord qk), .inl upd_same, rfl, told_word qk⟩, ?_⟩
  have g4 := g3.s s4
  refine ⟨_, rfl, _, rfl, _, rfl, _, rfl, p, 2, rfl, by decide, g4.2, fun j H5 hj b5 bx5 => ⟨rfl, le_line (by simp), fun a6 H6 na6 s6 h6 => ⟨_, rfl, le_line (by simp), fun a7 H7 na7 s7 h7 => ?_⟩⟩⟩
  have t37 := (((tm_same s4).trans (g4.2.tm b5)).trans (tm_same s6)).trans (tm_same s7)
  have t27 := (g2.2.tm g3'.1).trans t37
  refine k (⟨x, o, .q qk (decide (V.int (j : Nat) = V.int 0))⟩, some qk.kd) a7 (.ref a6) H7 rfl ⟨to, rfl, tq⟩ (fun e' he' => ?_) (((g4.b b5 bx5).s s6).s s7) h7 ⟨a6, v, .ref a3, rfl, s7 _ _ h6, xo.tm t27, qa.tm t37⟩
  rcases oe _ _ he' with h | h
  · exact hq e' h
  · exact h
end
end FF
/-! The generator: forms. -/
namespace FF
open PySem L2
def fnm (k : Nat) : Str := ("f" : Str) ++ ((toString (k : Int) : String) : Str)
def sName : List Str := ["main", "kid", "end"]
structure StG (D : List DS) (n : Nat) : Prop where
  ok : OKD [] D
  ky : keysD D = (List.range n).map fnm
  sn : D.map (·.name) = sName.take D.length
  le : D.length ≤ 3
  nl : n ≤ 3 * D.length
  fs : ∀ s ∈ D, 0 < s.fs.length ∧ s.fs.length ≤ 3
  ht : ∀ s ∈ D, OLow s.cond ∧ ∀ d ∈ s.fs, ∀ e ∈ exprsM d.1, e.ht ≤ 4
structure StF (D : List DS) (n : Nat) (r : Bool) (own : List DF) : Prop where
  ok : OKFs D r [] own
  ky : own.map (fun d => d.1.name) = (List.range own.length).map fun k => fnm (n + k)
  ht : ∀ d ∈ own, ∀ e ∈ exprsM d.1, e.ht ≤ 4
theorem StG.zero : StG [] 0 := ⟨trivial, rfl, rfl, by simp, by simp, fun s h => (by cases h), fun s h => (by cases h)⟩
theorem StF.zero {D : List DS} {n : Nat} {r : Bool} : StF D n r [] := ⟨trivial, rfl, fun s h => (by cases h)⟩
theorem StF.snoc {D : List DS} {n : Nat} {r : Bool} {own : List DF} {d : DF} (h : StF D n r own) (hd : FOK (tsOf D r own) d) (hn : d.1.name = fnm (n + own.length)) (he : ∀ e ∈ exprsM d.1, e.ht ≤ 4) : StF D n r (own ++ [d]) := by
  refine ⟨OKFs_app.mpr ⟨h.ok, hd, trivial⟩, ?_, fun x hx => ?_⟩
  · rw [List.map_append, h.ky, List.length_append, List.length_singleton, List.range_succ, List.map_append]
    simp [hn]
  · rcases List.mem_append.mp hx with hx | hx
    · exact h.ht x hx
    · cases List.mem_singleton.mp hx
      exact he
theorem StG.snoc {D : List DS} {n : Nat} {own : List DF} {name : Str} {cond : Option Ex} {most : Int} (g : StG D n) (h : StF D n (decide (0 < most)) own) (hl : D.length < 3) (h0 : 0 < own.length) (h3 : own.length ≤ 3)
    (hn : sName[D.length]? = some name) (tc : TyO (tsOf D false []) .truth cond) (lc : OLow cond) : StG (D ++ [⟨name, cond, most, own⟩]) (n + own.length) := by
  have gnl := g.nl
  refine ⟨OKD_app.mpr ⟨g.ok, ⟨tc, h.ok⟩, trivial⟩, ?_, ?_, by simp; omega, by simp; omega, fun s hs => ?_, fun s hs => ?_⟩
  · rw [keysD_app, g.ky, List.range_add, List.map_append, List.map_map]
    show _ ++ (own.map (fun d => d.1.name) ++ []) = _
    rw [List.append_nil, h.ky]
    rfl
  · rw [List.map_append, g.sn, List.length_append, List.length_singleton, take_snoc hn]
    rfl
  · rcases List.mem_append.mp hs with hs | hs
    · exact g.fs s hs
    · cases List.mem_singleton.mp hs
      exact ⟨h0, h3⟩
  · rcases List.mem_append.mp hs with hs | hs
    · exact g.ht s hs
    · cases List.mem_singleton.mp hs
      exact ⟨lc, h.ht⟩
theorem fnm_nd : ((List.range 12).map fnm).Nodup := by decide +kernel
theorem all_nd : (sName ++ (List.range 12).map fnm).Nodup := by decide +kernel
theorem fnm_len : ∀ k : Nat, k < 12 → ("f" : Str).length + ((toString (k : Int) : String) : Str).length ≤ 100 ∧ ((k : Nat) : Int).natAbs.log2 < 1920 := by decide +kernel
theorem range_sub {a b : Nat} (h : a ≤ b) : (List.range a).Sublist (List.range b) := List.range_sublist.mpr h
theorem StG.keys {D : List DS} {n : Nat} {r : Bool} {own : List DF} (g : StG D n) (h : StF D n r own) : keysD D ++ own.map (fun d => d.1.name) = (List.range (n + own.length)).map fnm := by
  rw [g.ky, h.ky, List.range_add, List.map_append, List.map_map]
  rfl
theorem StG.knd {D : List DS} {n : Nat} {r : Bool} {own : List DF} (g : StG D n) (h : StF D n r own) (l : n + own.length ≤ 12) : (keysD D ++ own.map (fun d => d.1.name)).Nodup := by
  rw [g.keys h]
  exact ((range_sub l).map fnm).nodup fnm_nd
theorem entK_sub : ∀ ds : List DF, ((entK ds).map (·.1)).Sublist (ds.map fun d => d.1.name)
  | [] => .slnil
  | d :: ds => by
    have ih := entK_sub ds
    obtain ⟨f, o⟩ := d
    cases o with
    | none => exact ih.cons _
    | some k => exact ih.cons_cons _
theorem entN_sub : ∀ D : List DS, ((entN D).map (·.1)).Sublist (keysD D)
  | [] => .slnil
  | s :: D => by
    have ih := entN_sub D
    show (((if s.rep = true then [] else entK s.fs) ++ entN D).map (·.1)).Sublist (s.fs.map (fun d => d.1.name) ++ keysD D)
    rw [List.map_append]
    refine List.Sublist.append ?_ ih
    split
    · exact List.nil_sublist _
    · exact entK_sub _
theorem entO_sub : ∀ D : List DS, ((entO D).map (·.1)).Sublist (keysD D)
  | [] => .slnil
  | s :: D => by
    have ih := entO_sub D
    show (((if s.rep = true then entK s.fs else []) ++ entO D).map (·.1)).Sublist (s.fs.map (fun d => d.1.name) ++ keysD D)
    rw [List.map_append]
    refine List.Sublist.append ?_ ih
    split
    · exact entK_sub _
    · exact List.nil_sublist _
theorem keys_len {D : List DS} {n : Nat} (g : StG D n) : (keysD D).length = n := by rw [g.ky, List.length_map, List.length_range]
/-- what the scope of a place holds: names once, few -/
theorem StG.N {D : List DS} {n : Nat} {r : Bool} {own : List DF} (g : StG D n) (h : StF D n r own) (l : n + own.length ≤ 12) : ((entN D ++ entK own).map (·.1)).Nodup ∧ (entN D ++ entK own).length ≤ 100 := by
  have s : ((entN D ++ entK own).map (·.1)).Sublist (keysD D ++ own.map fun d => d.1.name) := by
    rw [List.map_append]
    exact (entN_sub D).append (entK_sub own)
  refine ⟨s.nodup (g.knd h l), ?_⟩
  have := s.length_le
  rw [List.length_map, List.length_append, List.length_append, List.length_map, keys_len g] at this
  rw [List.length_append]
  omega
theorem StG.O {D : List DS} {n : Nat} {r : Bool} {own : List DF} (g : StG D n) (h : StF D n r own) (l : n + own.length ≤ 12) : ((entO D ++ entK own).map (·.1)).Nodup ∧ (entO D ++ entK own).length ≤ 100 := by
  have s : ((entO D ++ entK own).map (·.1)).Sublist (keysD D ++ own.map fun d => d.1.name) := by
    rw [List.map_append]
    exact (entO_sub D).append (entK_sub own)
  refine ⟨s.nodup (g.knd h l), ?_⟩
  have := s.length_le
  rw [List.length_map, List.length_append, List.length_append, List.length_map, keys_len g] at this
  rw [List.length_append]
  omega
theorem entS_len (D : List DS) : (entS D).length ≤ D.length := by
  rw [entS, List.length_map]
  exact List.length_filter_le ..
theorem kvK_none {es : List (Str × Kd)} {x : Str} (h : x ∉ es.map (·.1)) : valV (kvK es) (.inr x) = none := by
  induction es with
  | nil => rfl
  | cons p es ih =>
    show valV (_ :: kvK es) _ = _
    rw [valV_neg (fun e => h (by cases e; exact List.mem_cons_self))]
    exact ih fun z => h (List.mem_cons_of_mem _ z)
theorem kvK_app (A B : List (Str × Kd)) : kvK (A ++ B) = kvK A ++ kvK B := List.map_append
theorem merge_kvK : ∀ {B A : List (Str × Kd)}, ((A ++ B).map (·.1)).Nodup → mergeK (kvK A) (kvK B) = kvK (A ++ B)
  | [], A, _ => by rw [List.append_nil]; rfl
  | p :: B, A, nd => by
    have e : A ++ p :: B = (A ++ [p]) ++ B := by simp
    rw [e] at nd ⊢
    have n1 : p.1 ∉ A.map (·.1) := by
      rw [List.map_append, List.map_append] at nd
      have := (List.nodup_append.mp (List.nodup_append.mp nd).1).2.2
      intro hm
      exact this _ hm _ (List.mem_singleton.mpr rfl) rfl
    rw [← merge_kvK nd, kvK_app]
    show mergeK (putK (kvK A) (.inr p.1) (.str p.2.z)) (kvK B) = _
    rw [putK_new _ (kvK_none n1)]
    rfl
theorem merge_kvK0 {B : List (Str × Kd)} (nd : (B.map (·.1)).Nodup) : mergeK [] (kvK B) = kvK B := merge_kvK (A := []) nd
theorem perm_names : ∀ D : List DS, (namesD D).Perm (D.map (·.name) ++ keysD D)
  | [] => .refl _
  | s :: D => by
    have ih := perm_names D
    show (s.name :: (s.fs.map (fun d => d.1.name) ++ namesD D)).Perm (s.name :: (D.map (·.name) ++ (s.fs.map (fun d => d.1.name) ++ keysD D)))
    refine .cons _ ?_
    refine (List.Perm.append_left _ ih).trans ?_
    rw [← List.append_assoc, ← List.append_assoc]
    exact List.Perm.append_right _ List.perm_append_comm
theorem StG.right {D : List DS} {n : Nat} (g : StG D n) : Right D := by
  refine ⟨g.ok, (perm_names D).nodup_iff.mpr ?_⟩
  rw [g.sn, g.ky]
  have := g.le
  have := g.nl
  exact ((List.take_sublist _ _).append ((range_sub (show n ≤ 12 by omega)).map fnm)).nodup all_nd
theorem StG.mem {D : List DS} {n : Nat} (g : StG D n) {x : Str} (h : x ∈ namesD D) : x ∈ sName ++ (List.range 12).map fnm := by
  have := (perm_names D).mem_iff.mp h
  rw [g.sn, g.ky] at this
  have := g.le
  have := g.nl
  exact ((List.take_sublist _ _).append ((range_sub (show n ≤ 12 by omega)).map fnm)).subset ‹_›
theorem entN_snoc (D : List DS) (s : DS) : entN (D ++ [s]) = entN D ++ (if s.rep = true then [] else entK s.fs) := by simp [entN]
theorem entO_snoc (D : List DS) (s : DS) : entO (D ++ [s]) = entO D ++ (if s.rep = true then entK s.fs else []) := by simp [entO]
theorem entS_snoc (D : List DS) (s : DS) : entS (D ++ [s]) = entS D ++ (if s.rep = true then [s.name] else []) := by
  simp only [entS, List.filter_append, List.map_append]
  congr 1
  by_cases h : s.rep = true
  · rw [if_pos h, List.filter_cons_of_pos h]; rfl
  · rw [if_neg h, List.filter_cons_of_neg h]; rfl
theorem entK_snoc (own : List DF) (d : DF) : entK (own ++ [d]) = entK own ++ (match d.2 with | none => [] | some k => [(d.1.name, k)]) := by
  rw [entK_app]
  congr 1
  obtain ⟨f, o⟩ := d
  cases o <;> rfl
theorem Gn.free {p l : Addr} {H H1 : Hp} (g : Gn p H H1) (n : H1 l = none) : H l = none := by
  cases e : H l with
  | none => rfl
  | some o =>
    have np : l ≠ p := by
      rintro rfl
      obtain ⟨u, ds, m, e1, _⟩ := g.2
      rw [e1] at n
      cases n
    rw [g.1 _ _ np e] at n
    cases n
def spForm : Sp := fun vs H Q _ => ∃ p : Addr, vs = [.ref p] ∧ BxAt H p ∧ ∀ D n v H', StG D n → D ≠ [] → Gn p H H' → FrmAt H' v (D.map DS.s) → Q v H'
theorem pick_sec : ∀ i : Nat, i < 3 → ∃ x, sName[i]? = some x ∧ [V.str "main", V.str "kid", V.str "end"][i]? = some (.str x)
  | 0, _ => ⟨_, rfl, rfl⟩
  | 1, _ => ⟨_, rfl, rfl⟩
  | 2, _ => ⟨_, rfl, rfl⟩
  | i + 3, h => by omega
theorem pick_most (c : Bool) (m : Nat) : ∃ mo : Int, [V.int 0, V.int (1 + (m : Nat))][if c = true then 1 else 0]? = some (.int mo) := by
  cases c
  · exact ⟨0, rfl⟩
  · exact ⟨_, rfl⟩
theorem pick_cond {H : Hp} {t : Ts} {o : Option Ex} {v : V} (to : TyO t .truth o) (lo : OLow o) (xo : OxAt H o v) : ∀ m : Nat, (m : Int) < 3 → ∃ v' o', [V.non, V.non, v][m]? = some v' ∧ TyO t .truth o' ∧ OLow o' ∧ OxAt H o' v'
  | 0, _ => ⟨_, none, rfl, tyo_none, olow_none, rfl⟩
  | 1, _ => ⟨_, none, rfl, tyo_none, olow_none, rfl⟩
  | 2, _ => ⟨_, o, rfl, to, lo, xo⟩
  | m + 3, h => by omega
theorem paired_tup {K : PySem.W.Frag} {H H' : Hp} (s : Tm H H') : ∀ {ts : List Addr} {kvs : List (Key × V)}, Paired (fun (t : Addr) (q : Key × V) => H t = some (.tup [kV q.1, q.2])) ts kvs → Paired (fun p kv => SqT K H' p [kV kv.1, kv.2]) ts kvs
  | _, _, .nil => .nil
  | _, _, .cons h r => .cons (sq_tup (s _ _ h)) (paired_tup s r)
theorem paired_app {α β : Type} {F : α → β → Prop} : ∀ {a c : List α} {b d : List β}, Paired F a b → Paired F c d → Paired F (a ++ c) (b ++ d)
  | _, _, _, _, .nil, k => k
  | _, _, _, _, .cons h r, k => .cons h (paired_app r k)
theorem SctAt.of {H : Hp} {a b : Addr} {x : V} {vs : List V} {s : DS} (h : H a = some (.tup [.str s.name, x, .int s.most, .ref b])) (ho : OxAt H s.cond x) (hb : H b = some (.tup vs)) (al : All2 (FldAt H) vs (s.fs.map (·.1))) : SctAt H (.ref a) s.s := ⟨a, x, b, vs, rfl, h, ho, hb, al⟩
theorem bx_refs {H H' : Hp} {p l : Addr} {vs : List V} (h : BxAt H p) (b : But l H H') (e : H l = some (.lst vs)) (r : ∀ v ∈ vs, ∃ a, v = .ref a) : BxAt H' p := by
  refine h.but b (fun q n z => ?_) (fun ds nz z => ?_)
  · rw [e] at z
    cases z
    obtain ⟨a, ea⟩ := r (.int n) (by simp)
    cases ea
  · rw [e] at z
    cases ds with
    | nil => exact nz rfl
    | cons d ds =>
      cases z
      obtain ⟨a, ea⟩ := r (.int d) (by simp [zsV])
      cases ea
section
variable {P : Program} {w : World} {K : PySem.W.Frag} {mg : Str → Option Value} {base : Heap} {cSc cSv aW aP aN aO aA : Addr}
abbrev s_law_form : Stmt := top 35
theorem sc_law_form : FnScope ["_law_box", "_law_scope", "_law_found", "_law_number_here", "_law_at", "_law_most", "_law_condition_here", "_law_inner", "_law_fields", "_law_own", "_law_k", "_law_name", "_law_field_here", "_law_kind", "_law_section"] ["_law_box"] (defScope s_law_form) := ⟨rfl, rfl, rfl, by decide +kernel, rfl, by decide +kernel, by decide +kernel⟩
theorem ok_form {f : Addr} {fd : FuncData} (T : Txt K mg w cSc cSv aW aP aN aO aA) (F : Fun K "_law_form" "_law_form" s_law_form f fd)
    (G_law_draw : Has P w K mg base "_law_draw" 1 ["_law_box", "_law_many"] spDraw)
    (G_law_condition : Has P w K mg base "_law_condition" 11 ["_law_box", "_law_scope"] spCond) (G_law_field : Has P w K mg base "_law_field" 13 ["_law_box", "_law_name", "_law_scope"] spFld) :
    FnOk P w K mg base CX0 14 f fd ["_law_box"] spForm := by
  refine F.ok sc_law_form (fun vs H Q E h => ?_) (fun cdv A outer s H vs Q E hr h => ?_)
  · obtain ⟨p, rfl, _⟩ := h
    rfl
  obtain ⟨p, rfl, bx, k⟩ := h
  have hu := hu_of hr
  refine ⟨_, (pss_cons (ps_set (i := 1) sc_law_form.nd rfl (Or.inl rfl) (pe_lstN (pa_cons pe_dnewN (pa_cons pe_dnewN (pa_cons (pe_lstN pa_nil) (pa_cons pe_bl pa_nil))))))
      (pss_cons (ps_set (i := 2) sc_law_form.nd rfl (Or.inl rfl) (pe_lstN pa_nil))
      (pss_cons (ps_set (i := 3) sc_law_form.nd rfl (Or.inl rfl) pe_int)
      (pss_cons (ps_for PassesOwn.never rfl (pi_range1 (by rfl) T.range (pa_cons (pe_op op_add pe_int (pe_callH G_law_draw (hr.mono (by omega)) (by rfl) (pa_cons (pv 0) (pa_cons pe_int pa_nil)))) pa_nil)) (pg_name (i := 4) sc_law_form.nd rfl (Or.inl rfl) (hf := Or.inl rfl))
        (pss_cons (ps_set (i := 5) sc_law_form.nd rfl (Or.inl rfl) (pe_ix (r := rIxL K) ix_list (pe_lstN (pa_cons pe_int (pa_cons (pe_op op_add pe_int (pe_callH G_law_draw (hr.mono (by omega)) (by rfl) (pa_cons (pv 0) (pa_cons pe_int pa_nil)))) pa_nil))) (pe_callTy call_int1 (by rfl) T.int (by decide +kernel) (pa_cons (pe_cmpR op_lt (pe_callH G_law_draw (hr.mono (by omega)) (by rfl) (pa_cons (pv 0) (pa_cons pe_int pa_nil))) (pe_op op_add pe_int (pe_callTy call_int1 (by rfl) T.int (by decide +kernel) (pa_cons (pe_cmpR op_eq (pv 4) pe_int (nomark _)) pa_nil))) (nomark _)) pa_nil)) (fun _ _ => rfl)))
        (pss_cons (ps_set (i := 6) sc_law_form.nd rfl (Or.inl rfl) (pe_ix (r := rIxL K) ix_list (pe_lstN (pa_cons pe_non (pa_cons pe_non (pa_cons (pe_callH G_law_condition (hr.mono (by omega)) (by rfl) (pa_cons (pv 0) (pa_cons (pv 1) pa_nil))) pa_nil)))) (pe_callH G_law_draw (hr.mono (by omega)) (by rfl) (pa_cons (pv 0) (pa_cons pe_int pa_nil))) (fun _ _ => rfl)))
        (pss_cons (ps_set (i := 7) sc_law_form.nd rfl (Or.inl rfl) (pe_lstN (pa_cons (pe_callTy call_dictCN (by rfl) T.dict (by decide +kernel) (pa_cons (pe_ix (r := rIxL K) ix_list (pv 1) pe_int (fun _ _ => rfl)) pa_nil)) (pa_cons (pe_ix (r := rIxL K) ix_list (pv 1) pe_int (fun _ _ => rfl)) (pa_cons (pe_ix (r := rIxL K) ix_list (pv 1) pe_int (fun _ _ => rfl)) (pa_cons (pe_cmpR op_gt (pv 5) pe_int (nomark _)) pa_nil))))))
        (pss_cons (ps_set (i := 8) sc_law_form.nd rfl (Or.inl rfl) (pe_lstN pa_nil))
        (pss_cons (ps_set (i := 9) sc_law_form.nd rfl (Or.inl rfl) pe_dnewN)
        (pss_cons (ps_for PassesOwn.never rfl (pi_range1 (by rfl) T.range (pa_cons (pe_op op_add pe_int (pe_callH G_law_draw (hr.mono (by omega)) (by rfl) (pa_cons (pv 0) (pa_cons pe_int pa_nil)))) pa_nil)) (pg_name (i := 10) sc_law_form.nd rfl (Or.inl rfl) (hf := Or.inl rfl))
          (pss_cons (ps_set (i := 11) sc_law_form.nd rfl (Or.inl rfl) (pe_op op_add_str pe_str (pe_callTy call_str_int (by rfl) T.str (by decide +kernel) (pa_cons (pv 3) pa_nil))))
          (pss_cons (ps_set (i := 3) sc_law_form.nd rfl (Or.inl rfl) (pe_op op_add (pv 3) pe_int))
          (pss_cons (ps_asg (pe_callH G_law_field (hr.mono (by omega)) (by rfl) (pa_cons (pv 0) (pa_cons (pv 11) (pa_cons (pv 7) pa_nil)))) (pg_tup rfl (pgs_cons (pg_name (i := 12) sc_law_form.nd rfl (Or.inl rfl) (hf := Or.inl rfl)) (pgs_cons (pg_name (i := 13) sc_law_form.nd rfl (Or.inl rfl) (hf := Or.inl rfl)) pgs_nil))))
          (pss_cons (ps_expr (pe_bm PySem.F.plainAttrs_list PySem.F.slot_list_append PySem.F.type_list_append mt_appendN (pv 8) (pa_cons (pv 12) pa_nil)))
          (pss_one (ps_if (pt_cmp (pc_notN (pv 13)))
            (pss_cons (ps_dputN hu (pe_ix (r := rIxL K) ix_list (pv 7) pe_int (fun _ _ => rfl)) (pv 11) (pv 13) rfl)
            (pss_one (ps_dputN hu (pv 9) (pv 11) (pv 13) rfl)))
            pss_nil)))))))
        (pss_cons (ps_set (i := 14) sc_law_form.nd rfl (Or.inl rfl) (pe_ix (r := rIxL K) ix_list (pe_lstN (pa_cons pe_str (pa_cons pe_str (pa_cons pe_str pa_nil)))) (pe_callTy call_int1 (by rfl) T.int (by decide +kernel) (pa_cons (pv 4) pa_nil)) (fun _ _ => rfl)))
        (pss_cons (ps_expr (pe_bm PySem.F.plainAttrs_list PySem.F.slot_list_append PySem.F.type_list_append mt_appendN (pv 2) (pa_cons (pe_tupN (pa_cons (pv 14) (pa_cons (pv 6) (pa_cons (pv 5) (pa_cons (pe_callTy call_tuple_ofN (by rfl) T.tuple (by decide +kernel) (pa_cons (pv 8) pa_nil)) pa_nil))))) pa_nil)))
        (pss_one (ps_if (pt_cmpR op_gt (pv 5) pe_int (nomark _))
          (pss_one (ps_set (i := 1) sc_law_form.nd rfl (Or.inl rfl) (pe_lstN (pa_cons (pe_ix (r := rIxL K) ix_list (pv 1) pe_int (fun _ _ => rfl)) (pa_cons (pe_callTy (call_dictPN (by rfl)) (by rfl) T.dict (by decide +kernel) (pa_cons (pe_op op_catN (LiI.pe_listItems (by rfl) (pe_ix (r := rIxL K) ix_list (pv 1) pe_int (fun _ _ => rfl)) (by rfl) T.list (by decide +kernel)) (LiI.pe_listItems (by rfl) (pv 9) (by rfl) T.list (by decide +kernel))) pa_nil)) (pa_cons (pe_op op_catN (pe_ix (r := rIxL K) ix_list (pv 1) pe_int (fun _ _ => rfl)) (pe_lstN (pa_cons (pv 14) pa_nil))) (pa_cons pe_bl pa_nil)))))))
          (pss_one (ps_set (i := 1) sc_law_form.nd rfl (Or.inl rfl) (pe_lstN (pa_cons (pe_callTy (call_dictPN (by rfl)) (by rfl) T.dict (by decide +kernel) (pa_cons (pe_op op_catN (LiI.pe_listItems (by rfl) (pe_ix (r := rIxL K) ix_list (pv 1) pe_int (fun _ _ => rfl)) (by rfl) T.list (by decide +kernel)) (LiI.pe_listItems (by rfl) (pv 9) (by rfl) T.list (by decide +kernel))) pa_nil)) (pa_cons (pe_ix (r := rIxL K) ix_list (pv 1) pe_int (fun _ _ => rfl)) (pa_cons (pe_ix (r := rIxL K) ix_list (pv 1) pe_int (fun _ _ => rfl)) (pa_cons pe_bl pa_nil))))))))))))))))))
      (pss_one (ps_ret (pe_callTy call_tuple_ofN (by rfl) T.tuple (by decide +kernel) (pa_cons (pv 2) pa_nil)))))))), ?_⟩
  have fresh : ∀ {H3 : Hp} {l : Addr}, Gn p H H3 → H3 l = none → l ≠ p := fun g nl => by
    rintro rfl
    obtain ⟨u, ds, n', e1, _⟩ := g.2
    rw [e1] at nl
    cases nl
  refine fun d0 H1 nd0 s1 h0 d1 H2 nd1 s2 h1 => ⟨Nat.zero_le _, fun l2 H3 nl2 s3 h2 => ⟨le_line (by simp), fun q0 H4 nq0 s4 h4 => ⟨Nat.zero_le _, fun l H5 nl5 s5 h5 => ?_⟩⟩⟩
  have s05 : Same H H5 := (((s1.trans s2).trans s3).trans s4).trans s5
  have g5 : Gn p H H5 := ⟨But.of_same s05, bx.same s05⟩
  have nl : H l = none := Gn.free (⟨But.of_same (((s1.trans s2).trans s3).trans s4), bx.same (((s1.trans s2).trans s3).trans s4)⟩ : Gn p H H4) nl5
  have npl : l ≠ p := fresh (⟨But.of_same (Same.refl _), bx⟩ : Gn p H H) nl
  have ls0 : LsAt H5 q0 (tsOf [] false []) := ⟨d0, d1, l2, s5 _ _ h4, s5 _ _ (s4 _ _ (s3 _ _ (s2 _ _ h0))), s5 _ _ (s4 _ _ (s3 _ _ h1)), s5 _ _ (s4 _ _ h2), .nil, .nil, Nat.zero_le _, Nat.zero_le _, Nat.zero_le _⟩
  refine ⟨_, rfl, p, 3, rfl, by decide, g5.2, fun m H6 hm b6 bx6 => ⟨_, _, rfl, rfl, _, rfl, by omega, by omega, ?_⟩⟩
  refine for_range (fun i σ H' => ∃ (q : Addr) (D : List DS) (n : Nat) (vs : List V) (u4 u5 u6 u7 u8 u9 u10 u11 u12 u13 u14 : Option V), σ = [some (.ref p), some (.ref q), some (.ref l), some (.int (n : Nat)), u4, u5, u6, u7, u8, u9, u10, u11, u12, u13, u14] ∧
      Gn p H H' ∧ LsAt H' q (tsOf D false []) ∧ (∀ a b c r, H' q = some (.lst [.ref a, .ref b, .ref c, r]) → c ≠ l) ∧ H' l = some (.lst vs) ∧ All2 (SctAt H') vs (D.map DS.s) ∧ D.length = i ∧ StG D n)
    ⟨q0, [], 0, [], none, none, none, none, none, none, none, none, none, none, none, rfl, g5.b b6 bx6, ls0.but g5.2 b6, fun a b c r e => (by
      have nq : q0 ≠ p := fresh (⟨But.of_same ((s1.trans s2).trans s3), bx.same ((s1.trans s2).trans s3)⟩ : Gn p H H3) nq0
      rw [b6 _ _ nq (s5 _ _ h4)] at e
      cases e
      exact ne_of_none (s4 _ _ h2) nl5), b6 _ _ npl h5, trivial, rfl, .zero⟩ ?_ ?_
  · rintro i σ H7 hi ⟨q, D, n, vs, u4, u5, u6, u7, u8, u9, u10, u11, u12, u13, u14, rfl, g7, ls7, NL7, hl7, al7, eD, st⟩
    have hi3 : i < 3 := by omega
    obtain ⟨a, b, c, hq, ha, hb, hc, ndN, ndO, lN, lO, lS⟩ := id ls7
    have sle := st.nl
    -- the most
    refine ⟨_, rfl, p, 3, rfl, by decide, g7.2, fun m1 H8 hm1 b8 bx8 => ⟨_, _, rfl, rfl, le_line (by simp), fun la H9 nla s9 h9 => ?_⟩⟩
    have g8 := g7.b b8 bx8
    have g9 := g8.s s9
    refine ⟨_, rfl, p, 3, rfl, by decide, g9.2, fun m2 H10 hm2 b10 bx10 => ⟨_, rfl, rfl, .inr ⟨_, rfl, _, _, rfl, rfl, _, _, rfl, rfl, .inr ⟨_, rfl, ?_⟩⟩⟩⟩
    have g10 := g9.b b10 bx10
    have ha10 := b10 _ _ (fresh g8 nla) h9
    obtain ⟨mo, emo⟩ := pick_most (decide ((m2 : Int) < 1 + (if decide (V.int (0 + (i : Nat)) = V.int 1) = true then 1 else 0))) m1
    refine ⟨la, _, ((if decide ((m2 : Int) < 1 + (if decide (V.int (0 + (i : Nat)) = V.int 1) = true then 1 else 0)) = true then 1 else 0 : Nat) : Int), .int mo, rfl, ?_, SqL.of ha10, atI_nat emo, ?_⟩
    · by_cases z : decide ((m2 : Int) < 1 + (if decide (V.int (0 + (i : Nat)) = V.int 1) = true then 1 else 0)) = true
      · rw [if_pos z, if_pos z]; rfl
      · rw [if_neg z, if_neg z]; rfl
    have l10 := (((ls7.but g7.2 b8).same s9).but g9.2 b10)
    -- the condition
    refine ⟨_, rfl, _, rfl, p, q, _, rfl, bx10, l10, fun o v H11 to lo g11' xo => ⟨le_line (by simp), fun lb H12 nlb s12 h12 => ⟨_, rfl, p, 3, rfl, by decide, (Gn.s g11' s12).2, fun m3 H13 hm3 b13 bx13 => ?_⟩⟩⟩
    have g11 := g10.b g11'.1 g11'.2
    have g12 := g11.s s12
    have g13 := g12.b b13 bx13
    have hb13 := b13 _ _ (fresh g11 nlb) h12
    obtain ⟨vc, oc, evc, tc, lc, xc⟩ := pick_cond to lo (xo.tm ((tm_same s12).trans (g12.2.tm b13))) m3 hm3
    refine ⟨lb, _, m3, _, rfl, rfl, SqL.of hb13, atI_nat evc, ?_⟩
    -- all till here: a change of the box alone
    have B : But p H7 H13 := ((((b8.trans (But.of_same s9)).trans b10).trans g11'.1).trans (But.of_same s12)).trans b13
    have hl13 := B _ _ npl hl7
    have al13 : All2 (SctAt H13) vs (D.map DS.s) := al7.imp fun _ _ z => z.tm (g7.2.tm B)
    have ls13 := ls7.but g7.2 B
    have NL13 : ∀ a b c r, H13 q = some (.lst [.ref a, .ref b, .ref c, r]) → c ≠ l := fun a' b' c' r' e => by
      have npq : q ≠ p := by rintro rfl; obtain ⟨_, _, _, e1, _⟩ := g7.2; rw [hq] at e1; cases e1
      rw [B _ _ npq hq] at e
      cases e
      exact NL7 _ _ _ _ hq
    clear emo h9 s9 s12 h12 nla nlb ha10 hb13 l10 xo g11' g12 g11 g10 g9 g8 b8 b10 b13 bx8 bx10 bx13 evc to lo hq ha hb hc
    obtain ⟨a, b, c, hq, ha, hb, hc, ndN, ndO, lN, lO, lS⟩ := id ls13
    have npq : q ≠ p := by rintro rfl; obtain ⟨_, _, _, e1, _⟩ := g13.2; rw [hq] at e1; cases e1
    have npa : a ≠ p := by rintro rfl; obtain ⟨_, _, _, e1, _⟩ := g13.2; rw [ha] at e1; cases e1
    have npb : b ≠ p := by rintro rfl; obtain ⟨_, _, _, e1, _⟩ := g13.2; rw [hb] at e1; cases e1
    have npc : c ≠ p := bx_ne g13.2 hc
    -- the inner scope
    refine ⟨_, rfl, q, _, 0, _, rfl, rfl, SqL.of hq, at0, a, _, rfl, ha, fun d7 H14 nd7 s14 h14 => ?_⟩
    refine ⟨_, rfl, q, _, 1, _, rfl, rfl, SqL.of (s14 _ _ hq), at1, _, rfl, q, _, 2, _, rfl, rfl, SqL.of (s14 _ _ hq), at2, _, rfl, _, _, rfl, rfl, le_line (by simp), fun l7 H15 nl7 s15 h15 => ?_⟩
    refine ⟨Nat.zero_le _, fun l8 H16 nl8 s16 h16 => fun d9 H17 nd9 s17 h17 => ?_⟩
    have s1317 := ((s14.trans s15).trans s16).trans s17
    have g17 := g13.s s1317
    have h7_17 := s17 _ _ (s16 _ _ h15)
    have hd7_17 := s17 _ _ (s16 _ _ (s15 _ _ h14))
    have h8_17 := s17 _ _ h16
    have n78 : d7 ≠ l8 := ne_of_none (s15 _ _ h14) nl8
    have n79 : d7 ≠ d9 := ne_of_none (s16 _ _ (s15 _ _ h14)) nd9
    have n89 : l8 ≠ d9 := ne_of_none h16 nd9
    have p7 : d7 ≠ p := fresh g13 nd7
    have p8 : l8 ≠ p := fresh (g13.s (s14.trans s15)) nl8
    have p9 : d9 ≠ p := fresh (g13.s ((s14.trans s15).trans s16)) nd9
    have f7 : H d7 = none := g13.free nd7
    have f8 : H l8 = none := (g13.s (s14.trans s15)).free nl8
    have f9 : H d9 = none := (g13.s ((s14.trans s15).trans s16)).free nd9
    have l7d7 : l7 ≠ d7 := (ne_of_none h14 nl7).symm
    have l7l8 : l7 ≠ l8 := ne_of_none h15 nl8
    have l7d9 : l7 ≠ d9 := ne_of_none (s16 _ _ h15) nd9
    have l7p : l7 ≠ p := fresh (g13.s s14) nl7
    have offA : ∀ {x : Addr} {o : HO}, H13 x = some o → x ≠ d7 ∧ x ≠ l8 ∧ x ≠ d9 := fun e => ⟨ne_of_none e nd7, ne_of_none (s15 _ _ (s14 _ _ e)) nl8, ne_of_none (s16 _ _ (s15 _ _ (s14 _ _ e))) nd9⟩
    obtain ⟨bq, bds, bn, hbx17, hbq17, hbz⟩ := id g17.2
    -- the fields
    refine ⟨_, rfl, p, 3, rfl, by decide, g17.2, fun m4 H18 hm4 b18 bx18 => ⟨_, _, rfl, rfl, _, rfl, by omega, by omega, ?_⟩⟩
    refine for_range (fun j σ H' => ∃ (own : List DF) (fvs : List V) (u10 u11 u12 u13 : Option V), σ = [some (.ref p), some (.ref q), some (.ref l), some (.int ((n + own.length : Nat) : Int)), some (.int (0 + (i : Nat))), some (.int mo), some vc, some (.ref l7), some (.ref l8), some (.ref d9), u10, u11, u12, u13, u14] ∧
        BxAt H' p ∧ (∀ x o, x ≠ p → x ≠ d7 → x ≠ l8 → x ≠ d9 → H17 x = some o → H' x = some o) ∧ H' d7 = some (.dK (kvK (entN D ++ entK own))) ∧ H' l8 = some (.lst fvs) ∧ H' d9 = some (.dK (kvK (entK own))) ∧ All2 (FldAt H') fvs (own.map (·.1)) ∧ own.length = j ∧ StF D n (decide (0 < mo)) own)
      ⟨[], [], u10, u11, u12, u13, rfl, bx18, fun x o e1 _ _ _ h => b18 x o e1 h, by rw [b18 _ _ p7 hd7_17]; rfl, b18 _ _ p8 h8_17, b18 _ _ p9 h17, trivial, rfl, .zero⟩ ?_ ?_
    · rintro j σ H19 hj ⟨own, fvs, u10, u11, u12, u13, rfl, bx19, R, hd7, hl8, hd9, alf, eo, sf⟩
      have hj3 : j < 3 := by omega
      have eD' : D.length = i := eD
      have n12 : n + own.length < 12 := by omega
      obtain ⟨fl, fg⟩ := fnm_len (n + own.length) n12
      refine ⟨_, rfl, _, rfl, fg, _, _, rfl, rfl, le_line (Nat.le_trans fl (by decide)), ?_⟩
      refine ⟨_, rfl, _, _, rfl, rfl, ?_⟩
      have hq19 := R _ _ npq (offA hq).1 (offA hq).2.1 (offA hq).2.2 (s1317 _ _ hq)
      have hb19 := R _ _ npb (offA hb).1 (offA hb).2.1 (offA hb).2.2 (s1317 _ _ hb)
      have hc19 := R _ _ npc (offA hc).1 (offA hc).2.1 (offA hc).2.2 (s1317 _ _ hc)
      have h719 := R _ _ l7p l7d7 l7l8 l7d9 h7_17
      have gN := st.N sf (by omega)
      have lsI : LsAt H19 l7 (tsOf D (decide (0 < mo)) own) := ⟨d7, b, c, h719, hd7, hb19, hc19, gN.1, ndO, gN.2, lO, lS⟩
      refine ⟨_, rfl, _, rfl, _, rfl, p, l7, fnm (n + own.length), _, rfl, bx19, lsI, fun d af vf H20 hn hf hh g20 h20 fa => ?_⟩
      refine ⟨af, _, rfl, sq_tup h20, rfl, _, _, rfl, _, _, rfl, rfl, ?_⟩
      have hl820 := g20.1 _ _ p8 hl8
      have hd720 := g20.1 _ _ p7 hd7
      have hd920 := g20.1 _ _ p9 hd9
      have t1920 := bx19.tm g20.1
      refine ⟨_, rfl, .inl ⟨rfl, _, SqL.of hl820⟩, _, rfl, l8, _, _, rfl, rfl, hl820, lt_line (by rw [alf.len, List.length_map]; omega), fun H21 b21 h21 => ?_⟩
      have t2021 := tm_lst b21 hl820
      have bx21 : BxAt H21 p := g20.2.but b21 (fun q' n' e => ?_) (fun ds nz e => ?_)
      have hd721 := b21 _ _ n78 hd720
      have hd921 := b21 _ _ n89.symm hd920
      have alf21 : All2 (FldAt H21) (fvs ++ [vf]) ((own ++ [d]).map (·.1)) := by
        rw [List.map_append]
        exact (alf.imp fun _ _ z => (z.tm t1920).tm t2021).app ⟨fa.tm t2021, trivial⟩
      have R21 : ∀ x o, x ≠ p → x ≠ d7 → x ≠ l8 → x ≠ d9 → H17 x = some o → H21 x = some o := fun x o e1 e2 e3 e4 h => b21 _ _ e3 (g20.1 _ _ e1 (R x o e1 e2 e3 e4 h))
      have sf' : StF D n (decide (0 < mo)) (own ++ [d]) := sf.snoc hf hn hh
      have knd := st.knd sf' (by simp; omega)
      have eS : V.int (((n + own.length : Nat) : Int) + 1) = V.int ((n + (own ++ [d]).length : Nat) : Int) := by
        rw [List.length_append, List.length_singleton]; rfl
      refine ⟨_, rfl, _, rfl, ?_⟩
      obtain ⟨fld, ok⟩ := d
      cases ok with
      | none =>
        refine it_n rfl ⟨own ++ [(fld, none)], fvs ++ [vf], some (.int (0 + (j : Nat))), some (.str (fnm (n + own.length))), some vf, some (oV none), ?_, bx21, R21, ?_, h21, ?_, alf21, by simp [eo], sf'⟩
        · rw [← eS]; rfl
        · rw [hd721, entK_snoc]; simp
        · rw [hd921, entK_snoc]; simp
      | some kd =>
        refine it_y rfl ?_
        have h721 := b21 _ _ l7l8 (g20.1 _ _ l7p h719)
        have hn : fld.name = fnm (n + own.length) := hn
        have nn : fnm (n + own.length) ∉ (entN D ++ entK own).map (·.1) := by
          have sub : ((entN D ++ entK own).map (·.1)).Sublist (keysD D ++ own.map fun d => d.1.name) := by
            rw [List.map_append]
            exact (entN_sub D).append (entK_sub own)
          intro z
          rw [List.map_append, ← List.append_assoc] at knd
          exact (List.nodup_append.mp knd).2.2 _ (sub.subset z) _ (List.mem_singleton.mpr rfl) hn.symm
        have nn2 : fnm (n + own.length) ∉ (entK own).map (·.1) := fun z => nn (by rw [List.map_append]; exact List.mem_append_right _ z)
        refine ⟨_, rfl, _, rfl, l7, _, 0, _, rfl, rfl, SqL.of h721, at0, _, rfl, d7, _, .inr (fnm (n + own.length)), rfl, rfl, hd721, lt_line (by simp only [kvK, List.length_map]; omega), fun H22 b22 h22 => ?_⟩
        have hd922 := b22 _ _ n79.symm hd921
        refine ⟨_, rfl, _, rfl, _, rfl, d9, _, .inr (fnm (n + own.length)), rfl, rfl, hd922, lt_line (by simp only [kvK, List.length_map]; rw [List.length_append] at gN; omega), fun H23 b23 h23 => ?_⟩
        have t2123 := (tm_dK b22 hd721).trans (tm_dK b23 hd922)
        have bx23 : BxAt H23 p := (bx21.but b22 (fun _ _ e => by rw [hd721] at e; cases e) (fun _ _ e => by rw [hd721] at e; cases e)).but b23 (fun _ _ e => by rw [hd922] at e; cases e) (fun _ _ e => by rw [hd922] at e; cases e)
        refine ⟨own ++ [(fld, some kd)], fvs ++ [vf], some (.int (0 + (j : Nat))), some (.str (fnm (n + own.length))), some vf, some (oV (some kd)), ?_, bx23, fun x o e1 e2 e3 e4 h => b23 _ _ e4 (b22 _ _ e2 (R21 x o e1 e2 e3 e4 h)), ?_, b23 _ _ n89 (b22 _ _ n78.symm h21), ?_, alf21.imp fun _ _ z => z.tm t2123, by simp [eo], sf'⟩
        · rw [← eS]; rfl
        · rw [b23 _ _ n79 h22, putK_new _ (kvK_none nn), entK_snoc, ← List.append_assoc, kvK_app (entN D ++ entK own), hn]; rfl
        · rw [h23, putK_new _ (kvK_none nn2), entK_snoc, kvK_app (entK own), hn]; rfl
      · rw [hl820] at e
        cases fvs with
        | nil => cases e
        | cons z zs =>
          cases zs with
          | nil => cases e
          | cons y ys =>
            obtain ⟨y', ey, fy⟩ := alf.get (i := 1) rfl
            obtain ⟨_, _, _, _, _, ee, _⟩ := fy.view
            subst ee
            cases e
      · rw [hl820] at e
        cases fvs with
        | nil =>
          cases ds with
          | nil => exact nz rfl
          | cons d ds => cases e
        | cons z zs =>
          obtain ⟨y', ey, fy⟩ := alf.get (i := 0) rfl
          obtain ⟨_, _, _, _, _, ee, _⟩ := fy.view
          subst ee
          cases ds with
          | nil => cases e
          | cons d ds => cases e
    · rintro σ H19 ⟨own, fvs, u10, u11, u12, u13, rfl, bx19, R, hd7, hl8, hd9, alf, eo, sf⟩
      have eo : own.length = (1 + (m4 : Int)).toNat := eo
      have eD' : D.length = i := eD
      have t1719 : Tm H17 H19 := fun x xs h => R x _ (by rintro rfl; rw [hbx17] at h; cases h) (by rintro rfl; rw [hd7_17] at h; cases h) (by rintro rfl; rw [h8_17] at h; cases h) (by rintro rfl; rw [h17] at h; cases h) h
      have t1319 := (tm_same s1317).trans t1719
      have R13 : ∀ {x : Addr} {o : HO}, x ≠ p → H13 x = some o → H19 x = some o := fun e1 h => R _ _ e1 (offA h).1 (offA h).2.1 (offA h).2.2 (s1317 _ _ h)
      have g19 : Gn p H H19 := ⟨fun x o nx h => R13 nx (g13.1 x o nx h), bx19⟩
      have hq19 := R13 npq hq
      have ha19 := R13 npa ha
      have hb19 := R13 npb hb
      have hc19 := R13 npc hc
      have ncl := NL13 _ _ _ _ hq
      have hl19 := R13 npl hl13
      have al19 : All2 (SctAt H19) vs (D.map DS.s) := al13.imp fun _ _ z => z.tm t1319
      obtain ⟨nm, en, en2⟩ := pick_sec i hi3
      refine ⟨le_line (by simp), fun lk H20 nlc s20 h20 => ⟨_, rfl, .inl ⟨_, rfl, lk, _, (0 + (i : Nat) : Int), .str nm, rfl, rfl, SqL.of h20, (by rw [show (0 + (i : Int)) = ((i : Nat) : Int) by omega]; exact atI_nat en2), ?_⟩⟩⟩
      have vr : ∀ v ∈ vs, ∃ a, v = .ref a := fun v hv => by
        obtain ⟨j, hj, ej⟩ := List.getElem_of_mem hv
        obtain ⟨s', _, hs⟩ := al19.get (i := j) (by rw [List.getElem?_eq_getElem hj, ej])
        obtain ⟨x, _, _, _, ee, _⟩ := hs
        exact ⟨x, ee⟩
      have vlen : vs.length ≤ 3 := by rw [al19.len, List.length_map]; omega
      refine ⟨_, rfl, .inl ⟨rfl, _, SqL.of (s20 _ _ hl19)⟩, _, rfl, _, rfl, _, rfl, _, rfl, l8, _, rfl, SqL.of (s20 _ _ hl8), fun ta H21 nta s21 h21 => ⟨le_line (by simp), fun tb H22 ntb s22 h22 => ?_⟩⟩
      have s1922 := (s20.trans s21).trans s22
      have hl22 := s1922 _ _ hl19
      refine ⟨l, _, _, rfl, rfl, hl22, lt_line (by omega), fun H23 b23 h23 => ?_⟩
      have g22 := g19.s s1922
      have g23 : Gn p H H23 := ⟨g22.1.but b23 nl, bx_refs g22.2 b23 hl22 vr⟩
      have t1923 := (tm_same s1922).trans (tm_lst b23 hl22)
      have nql : q ≠ l := by
        rintro rfl
        rw [hq19] at hl19
        cases hl19
        obtain ⟨x, ex⟩ := vr (.bl (tsOf D false []).r) (by simp)
        cases ex
      have nal : a ≠ l := by rintro rfl; rw [ha19] at hl19; cases hl19
      have nbl : b ≠ l := by rintro rfl; rw [hb19] at hl19; cases hl19
      have n9l : d9 ≠ l := by rintro rfl; rw [hd9] at hl19; cases hl19
      have hq23 := b23 _ _ nql (s1922 _ _ hq19)
      have ha23 := b23 _ _ nal (s1922 _ _ ha19)
      have hb23 := b23 _ _ nbl (s1922 _ _ hb19)
      have hc23 := b23 _ _ ncl (s1922 _ _ hc19)
      have hd923 := b23 _ _ n9l (s1922 _ _ hd9)
      have sec : SctAt H23 (.ref tb) (⟨nm, oc, mo, own⟩ : DS).s :=
        SctAt.of (s := ⟨nm, oc, mo, own⟩) (tm_lst b23 hl22 _ _ h22) ((xc.tm t1319).tm t1923) (tm_lst b23 hl22 _ _ (s22 _ _ h21)) (alf.imp fun _ _ z => z.tm t1923)
      have al23 : All2 (SctAt H23) (vs ++ [.ref tb]) ((D ++ [(⟨nm, oc, mo, own⟩ : DS)]).map DS.s) := by
        rw [List.map_append]
        exact (al19.imp fun _ _ z => z.tm t1923).app ⟨sec, trivial⟩
      have st' : StG (D ++ [(⟨nm, oc, mo, own⟩ : DS)]) (n + own.length) := st.snoc sf (by omega) (by omega) (by omega) (by rw [eD']; exact en) tc lc
      have nle' := st'.nl
      have sle' := st'.le
      have N' := st'.N (own := []) (r := false) StF.zero (by simp only [List.length_append, List.length_singleton, List.length_nil] at *; omega)
      have O' := st'.O (own := []) (r := false) StF.zero (by simp only [List.length_append, List.length_singleton, List.length_nil] at *; omega)
      have eK0 : entK [] = [] := rfl
      rw [eK0, List.append_nil] at N' O'
      have S' := entS_len (D ++ [(⟨nm, oc, mo, own⟩ : DS)])
      have hn0 : (tsOf D false []).N = entN D := List.append_nil _
      have ho0 : (tsOf D false []).O = entO D := rfl
      rw [hn0] at ha23
      rw [ho0] at hb23
      refine ⟨_, rfl, _, _, rfl, rfl, _, rfl, ite2 (fun cp => ?_) (fun cp => ?_)⟩
      · have rp : DS.rep ⟨nm, oc, mo, own⟩ = true := cp
        refine ⟨_, rfl, q, _, 0, _, rfl, rfl, SqL.of hq23, at0, _, rfl, q, _, 1, _, rfl, rfl, SqL.of hq23, at1, b, _, rfl, hb23, fun H24 p1 ts1 s24 np1 nts1 npt1 hp1 pr1 => ⟨_, rfl, d9, _, rfl, s24 _ _ hd923, fun H25 p2 ts2 s25 np2 nts2 npt2 hp2 pr2 => ?_⟩⟩
        have s24 : Same H23 H24 := s24
        have s25 : Same H24 H25 := s25
        have ln1 := pr1.length
        have ln2 := pr2.length
        refine ⟨p1, p2, _, _, rfl, rfl, s25 _ _ hp1, hp2, le_line ?_, fun p3 H26 np3 s26 h26 => ?_⟩
        · rw [List.length_map, List.length_map, ln1, ln2]
          have := O'.2
          rw [entO_snoc, if_pos rp, List.length_append] at this
          have this : (entO D).length + (entK own).length ≤ 100 := this
          simp only [kvK, List.length_map]
          omega
        have t2426 : Tm H24 H26 := (tm_same s25).trans (tm_same s26)
        refine ⟨p3, ts1 ++ ts2, kvK (entO D) ++ kvK (entK own), rfl, SqL.of (by rw [List.map_append]; exact h26), paired_app (paired_tup t2426 pr1) (paired_tup (tm_same s26) pr2), fun dd H27 ndd s27 h27 => ?_⟩
        have s2327 := ((s24.trans s25).trans s26).trans s27
        refine ⟨_, rfl, q, _, 2, _, rfl, rfl, SqL.of (s2327 _ _ hq23), at2, _, rfl, le_line (by simp), fun le H28 nle s28 h28 => ⟨c, le, _, _, rfl, rfl, s28 _ _ (s2327 _ _ hc23), h28, le_line (by simp; omega), fun cc H29 ncc s29 h29 => ⟨le_line (by simp), fun q' H30 nq' s30 h30 => ?_⟩⟩⟩
        have s2830 := s29.trans s30
        have s2330 := (s2327.trans s28).trans s2830
        refine ⟨q', D ++ [⟨nm, oc, mo, own⟩], n + own.length, vs ++ [.ref tb], _, _, _, _, _, _, _, _, _, _, _, rfl, g23.s s2330, ?_, fun x y z r e => ?_, s2330 _ _ h23, al23.imp fun _ _ z => z.tm (tm_same s2330), by simp [eD'], st'⟩
        · refine ⟨a, dd, cc, h30, ?_, ?_, ?_, ?_⟩
          · rw [s2330 _ _ ha23]
            show _ = some (HO.dK (kvK (entN (D ++ [_]) ++ [])))
            rw [entN_snoc, if_pos rp, List.append_nil, List.append_nil]
          · rw [s30 _ _ (s29 _ _ (s28 _ _ h27))]
            show _ = some (HO.dK (kvK (entO (D ++ [_]))))
            rw [← kvK_app, entO_snoc, if_pos rp]
            have := O'.1
            rw [entO_snoc, if_pos rp] at this
            rw [merge_kvK0 this]
          · rw [s30 _ _ h29]
            show _ = some (HO.lst ((entS (D ++ [_])).map V.str))
            rw [entS_snoc, if_pos rp, List.map_append]
            rfl
          · refine ⟨?_, O'.1, ?_, O'.2, ?_⟩
            · show ((entN (D ++ [(⟨nm, oc, mo, own⟩ : DS)]) ++ []).map (fun p : Str × Kd => p.1)).Nodup
              rw [List.append_nil]; exact N'.1
            · show (entN (D ++ [(⟨nm, oc, mo, own⟩ : DS)]) ++ []).length ≤ 100
              rw [List.append_nil]; exact N'.2
            · exact Nat.le_trans S' (Nat.le_trans sle' (by decide))
        · rw [h30] at e
          cases e
          exact (ne_of_none (s28 _ _ (s2327 _ _ h23)) ncc).symm
      · have rp : ¬ DS.rep ⟨nm, oc, mo, own⟩ = true := cp
        refine ⟨_, rfl, q, _, 0, _, rfl, rfl, SqL.of hq23, at0, a, _, rfl, ha23, fun H24 p1 ts1 s24 np1 nts1 npt1 hp1 pr1 => ⟨_, rfl, d9, _, rfl, s24 _ _ hd923, fun H25 p2 ts2 s25 np2 nts2 npt2 hp2 pr2 => ?_⟩⟩
        have s24 : Same H23 H24 := s24
        have s25 : Same H24 H25 := s25
        have ln1 := pr1.length
        have ln2 := pr2.length
        refine ⟨p1, p2, _, _, rfl, rfl, s25 _ _ hp1, hp2, le_line ?_, fun p3 H26 np3 s26 h26 => ?_⟩
        · rw [List.length_map, List.length_map, ln1, ln2]
          have := N'.2
          rw [entN_snoc, if_neg rp, List.length_append] at this
          have this : (entN D).length + (entK own).length ≤ 100 := this
          simp only [kvK, List.length_map]
          omega
        have t2426 : Tm H24 H26 := (tm_same s25).trans (tm_same s26)
        refine ⟨p3, ts1 ++ ts2, kvK (entN D) ++ kvK (entK own), rfl, SqL.of (by rw [List.map_append]; exact h26), paired_app (paired_tup t2426 pr1) (paired_tup (tm_same s26) pr2), fun dd H27 ndd s27 h27 => ?_⟩
        have s2327 := ((s24.trans s25).trans s26).trans s27
        refine ⟨_, rfl, q, _, 1, _, rfl, rfl, SqL.of (s2327 _ _ hq23), at1, _, rfl, q, _, 2, _, rfl, rfl, SqL.of (s2327 _ _ hq23), at2, le_line (by simp), fun q' H30 nq' s30 h30 => ?_⟩
        have s2330 := s2327.trans s30
        refine ⟨q', D ++ [⟨nm, oc, mo, own⟩], n + own.length, vs ++ [.ref tb], _, _, _, _, _, _, _, _, _, _, _, rfl, g23.s s2330, ?_, fun x y z r e => ?_, s2330 _ _ h23, al23.imp fun _ _ z => z.tm (tm_same s2330), by simp [eD'], st'⟩
        · refine ⟨dd, b, c, h30, ?_, ?_, ?_, ?_⟩
          · rw [s30 _ _ h27]
            show _ = some (HO.dK (kvK (entN (D ++ [_]) ++ [])))
            rw [List.append_nil, ← kvK_app, entN_snoc, if_neg rp]
            have := N'.1
            rw [entN_snoc, if_neg rp] at this
            rw [merge_kvK0 this]
          · rw [s2330 _ _ hb23]
            show _ = some (HO.dK (kvK (entO (D ++ [_]))))
            rw [entO_snoc, if_neg rp, List.append_nil]
          · rw [s2330 _ _ hc23]
            show _ = some (HO.lst ((entS (D ++ [_])).map V.str))
            rw [entS_snoc, if_neg rp, List.append_nil]
            rfl
          · refine ⟨?_, O'.1, ?_, O'.2, ?_⟩
            · show ((entN (D ++ [(⟨nm, oc, mo, own⟩ : DS)]) ++ []).map (fun p : Str × Kd => p.1)).Nodup
              rw [List.append_nil]; exact N'.1
            · show (entN (D ++ [(⟨nm, oc, mo, own⟩ : DS)]) ++ []).length ≤ 100
              rw [List.append_nil]; exact N'.2
            · exact Nat.le_trans S' (Nat.le_trans sle' (by decide))
        · rw [h30] at e
          cases e
          exact ncl
  · rintro σ H7 ⟨q, D, n, vs, u4, u5, u6, u7, u8, u9, u10, u11, u12, u13, u14, rfl, g7, ls7, NL7, hl7, al7, eD, st⟩
    refine ⟨_, rfl, l, _, rfl, SqL.of hl7, fun a H8 na s8 h8 => ?_⟩
    refine k D n (.ref a) H8 st (fun e => ?_) (g7.s s8) ⟨a, vs, rfl, h8, al7.imp fun _ _ z => z.tm (tm_same s8)⟩
    subst e
    have eD : 0 = (1 + (m : Int)).toNat := eD
    omega
end
end FF
/-! The law's own helpers: what is read, a form with other fields. -/
namespace FF
open PySem L2
theorem call_tuple_anyN {X : Cx} : CallR X (.type "tuple") (fun xs H Q => ∃ p ys, xs = [.ref p] ∧ (SqL X.K H p ys ∨ H p = some (.tup ys)) ∧ ∀ l H', Same H H' → H' l = some (.tup ys) → Q (.ref l) H') :=
  call_imp call_tuple_of fun _ H _ ⟨p, ys, e1, h, q⟩ => ⟨p, ys, e1, by
    rcases h with h | h
    · exact .inl ⟨h, fun l nl => q l _ (same_upd nl) upd_same⟩
    · exact .inr ⟨SqT.of h, q p H (Same.refl _) h⟩⟩
theorem names_ht : ∀ {e : Ex}, (namesE e).length ≤ 3 ^ e.ht
  | .nam _ => Nat.le_refl _
  | .ask _ _ => Nat.le_refl _
  | .has _ _ => Nat.le_refl _
  | .row => Nat.zero_le _
  | .num _ => Nat.zero_le _
  | .opt _ => Nat.zero_le _
  | .not e => Nat.le_trans (names_ht (e := e)) (Nat.pow_le_pow_right (by decide) (Nat.le_succ _))
  | .op _ a b => by
    have h1 := names_ht (e := a)
    have h2 := names_ht (e := b)
    have m1 : 3 ^ a.ht ≤ 3 ^ max a.ht b.ht := Nat.pow_le_pow_right (by decide) (Nat.le_max_left ..)
    have m2 : 3 ^ b.ht ≤ 3 ^ max a.ht b.ht := Nat.pow_le_pow_right (by decide) (Nat.le_max_right ..)
    show (namesE a ++ namesE b).length ≤ 3 ^ (max a.ht b.ht + 1)
    rw [List.length_append, Nat.pow_succ]
    omega
  | .ite c a b => by
    have h0 := names_ht (e := c)
    have h1 := names_ht (e := a)
    have h2 := names_ht (e := b)
    have m0 : 3 ^ c.ht ≤ 3 ^ max c.ht (max a.ht b.ht) := Nat.pow_le_pow_right (by decide) (Nat.le_max_left ..)
    have m1 : 3 ^ a.ht ≤ 3 ^ max c.ht (max a.ht b.ht) := Nat.pow_le_pow_right (by decide) (Nat.le_trans (Nat.le_max_left ..) (Nat.le_max_right ..))
    have m2 : 3 ^ b.ht ≤ 3 ^ max c.ht (max a.ht b.ht) := Nat.pow_le_pow_right (by decide) (Nat.le_trans (Nat.le_max_right ..) (Nat.le_max_right ..))
    show (namesE c ++ (namesE a ++ namesE b)).length ≤ 3 ^ (max c.ht (max a.ht b.ht) + 1)
    rw [List.length_append, List.length_append, Nat.pow_succ]
    omega
theorem names_81 {e : Ex} (h : e.ht < 5) : (namesE e).length ≤ 81 := Nat.le_trans names_ht (Nat.le_trans (Nat.pow_le_pow_right (by decide) (Nat.le_of_lt_succ h)) (by decide))
theorem names_list : ∀ {es : List Ex}, (∀ e ∈ es, e.ht < 5) → (es.flatMap namesE).length ≤ 81 * es.length
  | [], _ => Nat.le_refl _
  | e :: es, h => by
    have h1 := names_81 (h e List.mem_cons_self)
    have h2 := names_list (es := es) fun x hx => h x (List.mem_cons_of_mem _ hx)
    rw [List.flatMap_cons, List.length_append, List.length_cons]
    omega
theorem fmap_len {α β : Type} (g : α → Option β) (xs : List α) : (xs.filterMap g).length ≤ xs.length := List.length_filterMap_le ..
theorem tol_len {α : Type} (o : Option α) : o.toList.length ≤ 1 := by cases o <;> simp
theorem exprs_len {H : Hp} {f : Fld} {v : V} (h : FldAt H v f) : (exprsM f).length ≤ 6 := by
  obtain ⟨x, c, b⟩ := f
  have hc := tol_len c
  show (c.toList ++ bExprs b).length ≤ 6
  rw [List.length_append]
  cases b with
  | fm e => show _ + 1 ≤ 6; omega
  | rl e r => show _ + 1 ≤ 6; omega
  | q k r =>
    cases k with
    | truth => show _ + 0 ≤ 6; omega
    | text => show _ + 0 ≤ 6; omega
    | integer lo hi =>
      have h1 := tol_len lo
      have h2 := tol_len hi
      show _ + (lo.toList ++ hi.toList).length ≤ 6
      rw [List.length_append]
      omega
    | opts m os =>
      obtain ⟨a, x, y, _, _, _, hq⟩ := h
      obtain ⟨_, _, _, _, _, _, _, _, hl⟩ := hq
      have h1 := fmap_len (·.2) os
      show _ + (os.filterMap (·.2)).length ≤ 6
      omega
theorem reads_len {H : Hp} {f : Fld} {v : V} (h : FldAt H v f) (hh : ∀ e ∈ exprsM f, e.ht < 5) : (readsF f).length ≤ 500 := by
  have h1 := exprs_len h
  have h2 := names_list hh
  show ((exprsM f).flatMap namesE).length ≤ 500
  omega
def SHt (s : Sct) : Prop := (∀ e, s.cond = some e → e.ht < 5) ∧ ∀ f ∈ s.fields, ∀ e ∈ exprsM f, e.ht < 5
def spNamesOf : Sp := fun vs H Q _ => ∃ (a : Addr) (xs : List V) (es : List Ex), vs = [.ref a] ∧ H a = some (.tup xs) ∧ All2 (fun v e => ExAt H e v) xs es ∧ (∀ e ∈ es, e.ht < 5) ∧ es.length ≤ 6 ∧
  ∀ l (zs : List Str) H', H l = none → Same H H' → H' l = some (.lst (zs.map V.str)) → (∀ y, y ∈ zs ↔ y ∈ es.flatMap namesE) → zs.length ≤ 500 → Q (.ref l) H'
def spReads : Sp := fun vs H Q _ => ∃ (v : V) (s : Sct), vs = [v] ∧ SctAt H v s ∧ SHt s ∧ s.fields.length ≤ 3 ∧
  ∀ l (zs : List Str) H', H l = none → Same H H' → H' l = some (.lst (zs.map V.str)) → (∀ y, y ∈ zs ↔ y ∈ readsS s) → zs.length ≤ 2000 → Q (.ref l) H'
def spAllRead : Sp := fun vs H Q _ => ∃ (v : V) (F : List Sct), vs = [v] ∧ FrmAt H v F ∧ (∀ s ∈ F, SHt s ∧ s.fields.length ≤ 3) ∧ F.length ≤ 3 ∧
  ∀ l (zs : List Str) H', H l = none → Same H H' → H' l = some (.lst (zs.map V.str)) → Q (.ref l) H'
def spWith : Sp := fun vs H Q _ => ∃ (v : V) (F A B : List Sct) (s : Sct) (b : Addr) (fvs : List V) (fs : List Fld), vs = [v, .int (A.length : Nat), .ref b] ∧ FrmAt H v F ∧ F = A ++ s :: B ∧ F.length ≤ 10 ∧
  (H b = some (.lst fvs) ∨ H b = some (.tup fvs)) ∧ All2 (FldAt H) fvs fs ∧
  ∀ v' H', Same H H' → FrmAt H' v' (A ++ ⟨s.name, s.cond, s.most, fs⟩ :: B) → Q v' H'
section
variable {P : Program} {w : World} {K : PySem.W.Frag} {mg : Str → Option Value} {base : Heap} {cSc cSv aW aP aN aO aA : Addr}
abbrev s_law_names_of : Stmt := top 36
theorem sc_law_names_of : FnScope ["_law_expressions", "_law_found", "_law_expression"] ["_law_expressions"] (defScope s_law_names_of) := ⟨rfl, rfl, rfl, by decide +kernel, rfl, by decide +kernel, by decide +kernel⟩
theorem ok_names_of {f : Addr} {fd : FuncData} (T : Txt K mg w cSc cSv aW aP aN aO aA) (F : Fun K "_law_names_of" "_law_names_of" s_law_names_of f fd) (G_names_in : Has P w K mg base "names_in" 7 ["expression"] (spNames 5)) :
    FnOk P w K mg base CX0 8 f fd ["_law_expressions"] spNamesOf := by
  refine F.ok sc_law_names_of (fun vs H Q E h => ?_) (fun cdv A outer s H vs Q E hr h => ?_)
  · obtain ⟨a, xs, es, rfl, _⟩ := h
    rfl
  obtain ⟨a, xs, es, rfl, ha, al, hh, hl, k⟩ := h
  refine ⟨_, (pss_cons (ps_set (i := 1) sc_law_names_of.nd rfl (Or.inl rfl) (pe_lstN pa_nil))
      (pss_cons (ps_for PassesOwn.never rfl (pi_tup (pv 0)) (pg_name (i := 2) sc_law_names_of.nd rfl (Or.inl rfl) (hf := Or.inl rfl))
        (pss_one (ps_set (i := 1) sc_law_names_of.nd rfl (Or.inl rfl) (pe_op op_catN (pv 1) (pe_callTy call_list_ofN (by rfl) T.list (by decide +kernel) (pa_cons (pe_callH G_names_in (hr.mono (by omega)) (by rfl) (pa_cons (pv 2) pa_nil)) pa_nil))))))
      (pss_one (ps_ret (pv 1))))), ?_⟩
  have len := al.len
  refine ⟨Nat.zero_le _, fun l0 H1 nl0 s1 h1 => ?_⟩
  refine ⟨_, rfl, a, rfl, ⟨_, sq_tup (s1 _ _ ha)⟩, ?_⟩
  refine for_tup (K := K) (a := a) (xs := xs) (fun i σ H' => ∃ l zs u2, σ = [some (.ref a), some (.ref l), u2] ∧ Same H H' ∧ H l = none ∧ H' l = some (.lst (zs.map V.str)) ∧ (∀ y, y ∈ zs ↔ y ∈ (es.take i).flatMap namesE) ∧ zs.length ≤ 81 * i)
    ⟨l0, [], none, rfl, s1, nl0, h1, fun y => by simp, Nat.zero_le _⟩ (fun i σ H' _ ⟨_, _, _, _, s', _⟩ => sq_tup (s' _ _ ha)) ?_ ?_
  · rintro i x σ H2 hi ⟨l, zs, u2, rfl, s2, nl, h2, hz, zl⟩
    obtain ⟨e, he, hx⟩ := al.get hi
    have hil := (List.getElem?_eq_some_iff.mp he).1
    have ht := hh e (List.mem_of_getElem? he)
    have n81 := names_81 ht
    refine ⟨_, rfl, _, rfl, e, x, rfl, hx.tm (tm_same s2), ht, by omega, fun p H3 s3 h3 => ⟨p, _, rfl, .inr (sq_tup h3), fun l4 H4 nl4 s4 h4 => ?_⟩⟩
    have gl := gath_len e []
    have gl : (gath [] e).length ≤ 0 + (namesE e).length := gl
    refine ⟨l, l4, _, _, rfl, rfl, s4 _ _ (s3 _ _ h2), h4, le_line (by rw [List.length_map, List.length_map]; omega), fun l5 H5 nl5 s5 h5 => ?_⟩
    have s25 := (s3.trans s4).trans s5
    refine ⟨l5, zs ++ gath [] e, _, rfl, s2.trans s25, ((s2.trans s3).trans s4).free nl5, by rw [h5, List.map_append], fun y => ?_, by rw [List.length_append]; omega⟩
    rw [take_snoc he, List.flatMap_append, List.mem_append, List.mem_append, hz y, gath_mem]
    simp
  · rintro σ H2 ⟨l, zs, u2, rfl, s2, nl, h2, hz, zl⟩
    have et : es.take xs.length = es := List.take_of_length_le (by omega)
    rw [et] at hz
    exact ⟨_, rfl, k l zs H2 nl s2 h2 hz (by omega)⟩
abbrev s_law_section_reads : Stmt := top 37
theorem sc_law_section_reads : FnScope ["_law_section", "_law_found", "_law_field_here"] ["_law_section"] (defScope s_law_section_reads) := ⟨rfl, rfl, rfl, by decide +kernel, rfl, by decide +kernel, by decide +kernel⟩
theorem ok_section_reads {f : Addr} {fd : FuncData} (T : Txt K mg w cSc cSv aW aP aN aO aA) (F : Fun K "_law_section_reads" "_law_section_reads" s_law_section_reads f fd) (G_names_in : Has P w K mg base "names_in" 7 ["expression"] (spNames 5))
    (G_expressions_of : Has P w K mg base "expressions_of" 2 ["field"] spExprs) (G_law_names_of : Has P w K mg base "_law_names_of" 8 ["_law_expressions"] spNamesOf) :
    FnOk P w K mg base CX0 9 f fd ["_law_section"] spReads := by
  refine F.ok sc_law_section_reads (fun vs H Q E h => ?_) (fun cdv A outer s H vs Q E hr h => ?_)
  · obtain ⟨v, s, rfl, _⟩ := h
    rfl
  obtain ⟨v, s, rfl, hs, ⟨hc, hf⟩, hl, k⟩ := h
  obtain ⟨a, x, b, fvs, rfl, ha, ox, hb, al⟩ := hs
  refine ⟨_, (pss_cons (ps_set (i := 1) sc_law_section_reads.nd rfl (Or.inl rfl) (pe_lstN pa_nil))
      (pss_cons (ps_if (pt_cmp (pc_notN (pe_ix (r := rIxT K) ix_tup (pv 0) pe_int (fun _ _ => rfl))))
        (pss_one (ps_set (i := 1) sc_law_section_reads.nd rfl (Or.inl rfl) (pe_callTy call_list_ofN (by rfl) T.list (by decide +kernel) (pa_cons (pe_callH G_names_in (hr.mono (by omega)) (by rfl) (pa_cons (pe_ix (r := rIxT K) ix_tup (pv 0) pe_int (fun _ _ => rfl)) pa_nil)) pa_nil))))
        pss_nil)
      (pss_cons (ps_for PassesOwn.never rfl (pi_tup (pe_ix (r := rIxT K) ix_tup (pv 0) pe_int (fun _ _ => rfl))) (pg_name (i := 2) sc_law_section_reads.nd rfl (Or.inl rfl) (hf := Or.inl rfl))
        (pss_one (ps_set (i := 1) sc_law_section_reads.nd rfl (Or.inl rfl) (pe_op op_catN (pv 1) (pe_callH G_law_names_of (hr.mono (by omega)) (by rfl) (pa_cons (pe_callH G_expressions_of (hr.mono (by omega)) (by rfl) (pa_cons (pv 2) pa_nil)) pa_nil))))))
      (pss_one (ps_ret (pv 1)))))), ?_⟩
  have len := al.len
  refine ⟨Nat.zero_le _, fun l0 H1 nl0 s1 h1 => ?_⟩
  obtain ⟨nm, cond, most, fields⟩ := s
  refine ⟨_, rfl, a, _, 1, _, rfl, rfl, sq_tup (s1 _ _ ha), at1, _, rfl, ?_⟩
  cases cond with
  | none =>
    have ox : x = .non := ox
    subst ox
    refine it_n rfl ?_
    obtain ⟨z0, h1, hz0, zl0⟩ : ∃ z0 : List Str, H1 l0 = some (.lst (z0.map V.str)) ∧ (∀ y, y ∈ z0 ↔ y ∈ (none : Option Ex).toList.flatMap namesE) ∧ z0.length ≤ 81 := ⟨[], h1, fun y => by simp, Nat.zero_le _⟩
    refine ⟨_, rfl, a, _, 3, _, rfl, rfl, sq_tup (s1 _ _ ha), at3, b, rfl, ⟨_, sq_tup (s1 _ _ hb)⟩, ?_⟩
    refine for_tup (K := K) (a := b) (xs := fvs) (fun i σ H' => ∃ l zs u2, σ = [some (.ref a), some (.ref l), u2] ∧ Same H H' ∧ H l = none ∧ H' l = some (.lst ((zs : List Str).map V.str)) ∧ (∀ y, y ∈ zs ↔ y ∈ (none : Option Ex).toList.flatMap namesE ∨ y ∈ (fields.take i).flatMap readsF) ∧ zs.length ≤ 81 + 500 * i)
      ⟨_, z0, none, rfl, s1, nl0, h1, fun y => by rw [hz0 y]; simp, zl0⟩ (fun i σ H' _ ⟨_, _, _, _, s', _⟩ => sq_tup (s' _ _ hb)) ?_ ?_
    · rintro i x σ H2 hi ⟨l, zs, u2, rfl, s2, nl, h2, hz, zl⟩
      obtain ⟨fl, he, hx⟩ := al.get hi
      have he : fields[i]? = some fl := he
      have hil := (List.getElem?_eq_some_iff.mp he).1
      have ht := hf fl (List.mem_of_getElem? he)
      have hl : fields.length ≤ 3 := hl
      have hx2 := hx.tm (tm_same s2)
      have rl := reads_len hx2 ht
      refine ⟨_, rfl, _, rfl, fl, x, rfl, hx2, fun p xs H3 s3 h3 al3 => ⟨p, xs, exprsM fl, rfl, h3, al3, ht, exprs_len hx2, fun l4 zs4 H4 nl4 s4 h4 hz4 zl4 => ?_⟩⟩
      refine ⟨l, l4, _, _, rfl, rfl, s4 _ _ (s3 _ _ h2), h4, le_line (by rw [List.length_map, List.length_map]; omega), fun l5 H5 nl5 s5 h5 => ?_⟩
      have s25 := (s3.trans s4).trans s5
      refine ⟨l5, zs ++ zs4, _, rfl, s2.trans s25, ((s2.trans s3).trans s4).free nl5, by rw [h5, List.map_append], fun y => ?_, by rw [List.length_append]; omega⟩
      rw [take_snoc he, List.flatMap_append, List.mem_append, List.mem_append, hz y, hz4 y, or_assoc]
      simp [readsF]
    · rintro σ H2 ⟨l, zs, u2, rfl, s2, nl, h2, hz, zl⟩
      have len : fvs.length = fields.length := len
      have hl : fields.length ≤ 3 := hl
      have et : fields.take fvs.length = fields := List.take_of_length_le (by omega)
      rw [et] at hz
      exact ⟨_, rfl, k l zs H2 nl s2 h2 (fun y => by rw [hz y, readsS, List.mem_append]) (by omega)⟩
  | some e0 =>
    have ox : ExAt H e0 x := ox
    obtain ⟨c1, zs1, rfl, hc1⟩ := ox.ref
    have ht0 := hc e0 rfl
    have n81 := names_81 ht0
    refine it_y rfl ?_
    refine ⟨_, rfl, a, _, 1, _, rfl, rfl, sq_tup (s1 _ _ ha), at1, e0, _, rfl, ox.tm (tm_same s1), ht0, by omega, fun p H3 s3 h3 => ⟨p, _, rfl, .inr (sq_tup h3), fun l4 H4 nl4 s4 h4 => ?_⟩⟩
    have gl : (gath [] e0).length ≤ 0 + (namesE e0).length := gath_len e0 []
    obtain ⟨z0, h1, hz0, zl0⟩ : ∃ z0 : List Str, H4 l4 = some (.lst (z0.map V.str)) ∧ (∀ y, y ∈ z0 ↔ y ∈ (some e0 : Option Ex).toList.flatMap namesE) ∧ z0.length ≤ 81 := ⟨gath [] e0, h4, fun y => by rw [gath_mem]; simp, by omega⟩
    have nl0 := (s1.trans s3).free nl4
    have s1 := (s1.trans s3).trans s4
    refine ⟨_, rfl, a, _, 3, _, rfl, rfl, sq_tup (s1 _ _ ha), at3, b, rfl, ⟨_, sq_tup (s1 _ _ hb)⟩, ?_⟩
    refine for_tup (K := K) (a := b) (xs := fvs) (fun i σ H' => ∃ l zs u2, σ = [some (.ref a), some (.ref l), u2] ∧ Same H H' ∧ H l = none ∧ H' l = some (.lst ((zs : List Str).map V.str)) ∧ (∀ y, y ∈ zs ↔ y ∈ (some e0 : Option Ex).toList.flatMap namesE ∨ y ∈ (fields.take i).flatMap readsF) ∧ zs.length ≤ 81 + 500 * i)
      ⟨_, z0, none, rfl, s1, nl0, h1, fun y => by rw [hz0 y]; simp, zl0⟩ (fun i σ H' _ ⟨_, _, _, _, s', _⟩ => sq_tup (s' _ _ hb)) ?_ ?_
    · rintro i x σ H2 hi ⟨l, zs, u2, rfl, s2, nl, h2, hz, zl⟩
      obtain ⟨fl, he, hx⟩ := al.get hi
      have he : fields[i]? = some fl := he
      have hil := (List.getElem?_eq_some_iff.mp he).1
      have ht := hf fl (List.mem_of_getElem? he)
      have hl : fields.length ≤ 3 := hl
      have hx2 := hx.tm (tm_same s2)
      have rl := reads_len hx2 ht
      refine ⟨_, rfl, _, rfl, fl, x, rfl, hx2, fun p xs H3 s3 h3 al3 => ⟨p, xs, exprsM fl, rfl, h3, al3, ht, exprs_len hx2, fun l4 zs4 H4 nl4 s4 h4 hz4 zl4 => ?_⟩⟩
      refine ⟨l, l4, _, _, rfl, rfl, s4 _ _ (s3 _ _ h2), h4, le_line (by rw [List.length_map, List.length_map]; omega), fun l5 H5 nl5 s5 h5 => ?_⟩
      have s25 := (s3.trans s4).trans s5
      refine ⟨l5, zs ++ zs4, _, rfl, s2.trans s25, ((s2.trans s3).trans s4).free nl5, by rw [h5, List.map_append], fun y => ?_, by rw [List.length_append]; omega⟩
      rw [take_snoc he, List.flatMap_append, List.mem_append, List.mem_append, hz y, hz4 y, or_assoc]
      simp [readsF]
    · rintro σ H2 ⟨l, zs, u2, rfl, s2, nl, h2, hz, zl⟩
      have len : fvs.length = fields.length := len
      have hl : fields.length ≤ 3 := hl
      have et : fields.take fvs.length = fields := List.take_of_length_le (by omega)
      rw [et] at hz
      exact ⟨_, rfl, k l zs H2 nl s2 h2 (fun y => by rw [hz y, readsS, List.mem_append]) (by omega)⟩
end
end FF
/-! The law's own helpers: a form with other fields; what is told, as data. -/
namespace FF
open PySem L2
section
variable {P : Program} {w : World} {K : PySem.W.Frag} {mg : Str → Option Value} {base : Heap} {cSc cSv aW aP aN aO aA : Addr}
abbrev s_law_with : Stmt := top 38
theorem sc_law_with : FnScope ["_law_form_here", "_law_at", "_law_fields", "_law_section"] ["_law_form_here", "_law_at", "_law_fields"] (defScope s_law_with) := ⟨rfl, rfl, rfl, by decide +kernel, rfl, by decide +kernel, by decide +kernel⟩
theorem ok_with {f : Addr} {fd : FuncData} (T : Txt K mg w cSc cSv aW aP aN aO aA) (F : Fun K "_law_with" "_law_with" s_law_with f fd) :
    FnOk P w K mg base CX0 1 f fd ["_law_form_here", "_law_at", "_law_fields"] spWith := by
  refine F.ok sc_law_with (fun vs H Q E h => ?_) (fun cdv A outer s H vs Q E hr h => ?_)
  · obtain ⟨v, F, A, B, s, b, fvs, fs, rfl, _⟩ := h
    rfl
  obtain ⟨v, F, A', B, sec, b, fvs, fs, rfl, ⟨fa, fvs0, rfl, hfa, al0⟩, rfl, hl, hb, al, k⟩ := h
  refine ⟨_, (pss_cons (ps_set (i := 3) sc_law_with.nd rfl (Or.inl rfl) (pe_ix (r := rIxT K) ix_tup (pv 0) (pv 1) (fun _ _ => rfl)))
      (pss_one (ps_ret (pe_op op_catAN (pe_op op_catAN (pe_slice sl_tupN (pv 0) po_none (po_some (pv 1))) (pe_tupN (pa_cons (pe_op op_catAN (pe_slice sl_tupN (pv 3) po_none (po_some pe_int)) (pe_tupN (pa_cons (pe_callTy call_tuple_anyN (by rfl) T.tuple (by decide +kernel) (pa_cons (pv 2) pa_nil)) pa_nil))) pa_nil))) (pe_slice sl_tupN (pv 0) (po_some (pe_op op_add (pv 1) pe_int)) po_none))))), ?_⟩
  have len := al0.len
  rw [List.length_append, List.length_cons] at len hl
  obtain ⟨sv, esv, hsv⟩ := al0.getR (i := A'.length) (b := sec) (by simp)
  obtain ⟨sa, x, fb, vs2, rfl, hsa, ox, hfb, al2⟩ := hsv
  refine ⟨_, rfl, _, rfl, fa, _, (A'.length : Nat), _, rfl, rfl, sq_tup hfa, atI_nat esv, ?_⟩
  refine ⟨_, rfl, _, rfl, _, rfl, fa, _, rfl, hfa, fun a1 H1 s1 h1 => ?_⟩
  have e1 : cutV fvs0 none (some (A'.length : Nat)) = fvs0.take A'.length := cut_to (by omega)
  rw [e1] at h1
  refine ⟨_, rfl, _, rfl, sa, _, rfl, s1 _ _ hsa, fun a2 H2 s2 h2 => ?_⟩
  have e2 : cutV [V.str sec.name, x, .int sec.most, .ref fb] none (some 3) = [V.str sec.name, x, .int sec.most] := cut_to (n := 3) (by simp)
  rw [e2] at h2
  have s02 := s1.trans s2
  refine ⟨_, rfl, b, fvs, rfl, ?_, fun a3 H3 s3 h3 => ⟨le_line (by simp), fun a4 H4 na4 s4 h4 => ?_⟩⟩
  · rcases hb with hb | hb
    · exact .inl (SqL.of (s02 _ _ hb))
    · exact .inr (s02 _ _ hb)
  refine ⟨a2, a4, _, _, rfl, rfl, s4 _ _ (s3 _ _ h2), h4, le_line (by simp), fun a5 H5 s5 h5 => ⟨le_line (by simp), fun a6 H6 na6 s6 h6 => ?_⟩⟩
  have s16 := ((((s2.trans s3).trans s4).trans s5).trans s6)
  refine ⟨a1, a6, _, _, rfl, rfl, s16 _ _ h1, h6, le_line (by rw [List.length_take, List.length_singleton]; omega), fun a7 H7 s7 h7 => ?_⟩
  have s17 := s16.trans s7
  refine ⟨_, rfl, _, rfl, _, _, rfl, rfl, _, rfl, fa, _, rfl, s17 _ _ (s1 _ _ hfa), fun a8 H8 s8 h8 => ?_⟩
  have e8 : cutV fvs0 (some ((A'.length : Int) + 1)) none = fvs0.drop (A'.length + 1) := cut_from (n := A'.length + 1) (by omega)
  rw [e8] at h8
  refine ⟨a7, a8, _, _, rfl, rfl, s8 _ _ h7, h8, le_line (by simp; omega), fun a9 H9 s9 h9 => ?_⟩
  have s09 := ((s1.trans s17).trans s8).trans s9
  have s59 := (((s6.trans s7).trans s8).trans s9)
  have s39 := ((s4.trans s5).trans s59)
  have t := tm_same s09
  refine k (.ref a9) H9 s09 ⟨a9, _, rfl, h9, ?_⟩
  have new : SctAt H9 (.ref a5) ⟨sec.name, sec.cond, sec.most, fs⟩ := ⟨a5, x, a3, fvs, rfl, s59 _ _ h5, ox.tm t, s39 _ _ h3, al.imp fun _ _ z => z.tm t⟩
  have p1 := (al0.take A'.length).imp fun _ _ z => z.tm t
  have p2 := (al0.drop (A'.length + 1)).imp fun _ _ z => z.tm t
  have q1 : (A' ++ sec :: B).take A'.length = A' := by simp
  have q2 : (A' ++ sec :: B).drop (A'.length + 1) = B := by
    rw [List.drop_append]
    simp
  rw [q1] at p1
  rw [q2] at p2
  rw [List.append_assoc]
  exact p1.app ⟨new, p2⟩
abbrev s_law_all_read : Stmt := top 39
theorem sc_law_all_read : FnScope ["_law_form_here", "_law_found", "_law_section"] ["_law_form_here"] (defScope s_law_all_read) := ⟨rfl, rfl, rfl, by decide +kernel, rfl, by decide +kernel, by decide +kernel⟩
theorem ok_all_read {f : Addr} {fd : FuncData} (T : Txt K mg w cSc cSv aW aP aN aO aA) (F : Fun K "_law_all_read" "_law_all_read" s_law_all_read f fd) (G_law_section_reads : Has P w K mg base "_law_section_reads" 9 ["_law_section"] spReads) :
    FnOk P w K mg base CX0 10 f fd ["_law_form_here"] spAllRead := by
  refine F.ok sc_law_all_read (fun vs H Q E h => ?_) (fun cdv A outer s H vs Q E hr h => ?_)
  · obtain ⟨a, xs, rfl, _⟩ := h
    rfl
  obtain ⟨v, F, rfl, ⟨a, xs, rfl, ha, al⟩, hh, hl, k⟩ := h
  refine ⟨_, (pss_cons (ps_set (i := 1) sc_law_all_read.nd rfl (Or.inl rfl) (pe_lstN pa_nil))
      (pss_cons (ps_for PassesOwn.never rfl (pi_tup (pv 0)) (pg_name (i := 2) sc_law_all_read.nd rfl (Or.inl rfl) (hf := Or.inl rfl))
        (pss_one (ps_set (i := 1) sc_law_all_read.nd rfl (Or.inl rfl) (pe_op op_catN (pv 1) (pe_callH G_law_section_reads (hr.mono (by omega)) (by rfl) (pa_cons (pv 2) pa_nil))))))
      (pss_one (ps_ret (pv 1))))), ?_⟩
  have len := al.len
  refine ⟨Nat.zero_le _, fun l0 H1 nl0 s1 h1 => ?_⟩
  refine ⟨_, rfl, a, rfl, ⟨_, sq_tup (s1 _ _ ha)⟩, ?_⟩
  refine for_tup (K := K) (a := a) (xs := xs) (fun i σ H' => ∃ l zs u2, σ = [some (.ref a), some (.ref l), u2] ∧ Same H H' ∧ H l = none ∧ H' l = some (.lst ((zs : List Str).map V.str)) ∧ zs.length ≤ 2000 * i)
    ⟨l0, [], none, rfl, s1, nl0, h1, Nat.zero_le _⟩ (fun i σ H' _ ⟨_, _, _, _, s', _⟩ => sq_tup (s' _ _ ha)) ?_ ?_
  · rintro i x σ H2 hi ⟨l, zs, u2, rfl, s2, nl, h2, zl⟩
    obtain ⟨sec, he, hx⟩ := al.get hi
    have hil := (List.getElem?_eq_some_iff.mp he).1
    obtain ⟨ht, hf⟩ := hh sec (List.mem_of_getElem? he)
    refine ⟨_, rfl, _, rfl, x, sec, rfl, hx.tm (tm_same s2), ht, hf, fun l4 zs4 H4 nl4 s4 h4 hz4 zl4 => ?_⟩
    refine ⟨l, l4, _, _, rfl, rfl, s4 _ _ h2, h4, le_line (by rw [List.length_map, List.length_map]; omega), fun l5 H5 nl5 s5 h5 => ?_⟩
    have s25 := s4.trans s5
    exact ⟨l5, zs ++ zs4, _, rfl, s2.trans s25, (s2.trans s4).free nl5, by rw [h5, List.map_append], by rw [List.length_append]; omega⟩
  · rintro σ H2 ⟨l, zs, u2, rfl, s2, nl, h2, zl⟩
    exact ⟨_, rfl, k l zs H2 nl s2 h2⟩
end
/-! ### what is told, as data -/
def isD (p : Str × Is) : PyData := .tuple [.str p.1, .str p.2.z]
def isDs (is : List (Str × Is)) : PyData := .list (is.map isD)
section
variable {K : PySem.W.Frag} {H : Hp}
theorem IpAt.dp {v : V} {p : Str × Is} (h : IpAt H v p) : Dp K H v (isD p) := by
  obtain ⟨a, rfl, ha⟩ := h
  exact .tup (sq_tup ha) (.cons (.str _) (.cons (.str _) .nil))
theorem ips_dp : ∀ {vs : List V} {is : List (Str × Is)}, All2 (IpAt H) vs is → DpAll K H vs (is.map isD)
  | [], [], _ => .nil
  | v :: vs, p :: is, h => .cons h.1.dp (ips_dp h.2)
theorem IsAt.dp {l : Addr} {is : List (Str × Is)} (h : IsAt H l is) : Dp K H (.ref l) (isDs is) := by
  obtain ⟨vs, hl, al⟩ := h
  exact .lst (SqL.of hl) (ips_dp al)
theorem strs_dp : ∀ {zs : List Str}, DpAll K H (zs.map V.str) (zs.map PyData.str)
  | [] => .nil
  | z :: zs => .cons (.str z) strs_dp
end
theorem isz_ok : ∀ i : Is, PyData.strOk i.z = true
  | .twice => by decide +kernel
  | .condition => by decide +kernel
  | .bound => by decide +kernel
  | .options => by decide +kernel
  | .formula => by decide +kernel
  | .rule => by decide +kernel
theorem isd_lay {p : Str × Is} (h : PyData.strOk p.1 = true) : (isD p).canLay0 = true := by
  simp [isD, PyData.canLay0, PyData.canLayAll0, h, isz_ok]
theorem isd_dep (p : Str × Is) : (isD p).depth ≤ 2 := by
  simp [isD, PyData.depth, PyData.depthAll]
theorem isds_lay : ∀ {is : List (Str × Is)}, (∀ p ∈ is, PyData.strOk p.1 = true) → PyData.canLayAll0 (is.map isD) = true
  | [], _ => rfl
  | p :: is, h => by
    simp only [List.map_cons, PyData.canLayAll0]
    rw [isd_lay (h p List.mem_cons_self), isds_lay fun q hq => h q (List.mem_cons_of_mem _ hq)]
    rfl
theorem isds_dep : ∀ is : List (Str × Is), PyData.depthAll (is.map isD) ≤ 2
  | [] => by simp [PyData.depthAll]
  | p :: is => by
    have h1 := isds_dep is
    have h2 := isd_dep p
    simp only [List.map_cons, PyData.depthAll]
    omega
theorem isds_shaped {is : List (Str × Is)} (h : ∀ p ∈ is, PyData.strOk p.1 = true) : SeqAt.shaped (isDs is) = true := by
  have h1 := isds_dep is
  have h2 : PyData.depth (isDs is) ≤ 64 := by
    simp only [isDs, PyData.depth]
    omega
  show ((isDs is).canLay0 && decide ((isDs is).depth ≤ 64)) = true
  rw [Bool.and_eq_true]
  exact ⟨by simp only [isDs, PyData.canLay0]; exact isds_lay h, decide_eq_true h2⟩
theorem strs_lay : ∀ {zs : List Str}, (∀ z ∈ zs, PyData.strOk z = true) → PyData.canLayAll0 (zs.map PyData.str) = true
  | [], _ => rfl
  | p :: is, h => by
    simp only [List.map_cons, PyData.canLayAll0, PyData.canLay0]
    rw [h p List.mem_cons_self, strs_lay fun q hq => h q (List.mem_cons_of_mem _ hq)]
    rfl
theorem strs_dep : ∀ zs : List Str, PyData.depthAll (zs.map PyData.str) ≤ 1
  | [] => by simp [PyData.depthAll]
  | p :: is => by
    have h1 := strs_dep is
    simp only [List.map_cons, PyData.depthAll, PyData.depth]
    omega
theorem strs_shaped {zs : List Str} (h : ∀ z ∈ zs, PyData.strOk z = true) : SeqAt.shaped (.list (zs.map PyData.str)) = true := by
  have h1 := strs_dep zs
  have h2 : PyData.depth (.list (zs.map PyData.str)) ≤ 64 := by
    simp only [PyData.depth]
    omega
  show (PyData.canLay0 (.list (zs.map PyData.str)) && decide (PyData.depth (.list (zs.map PyData.str)) ≤ 64)) = true
  rw [Bool.and_eq_true]
  exact ⟨by simp only [PyData.canLay0]; exact strs_lay h, decide_eq_true h2⟩
theorem nil_shaped : SeqAt.shaped (.list []) = true := by decide +kernel
theorem isds_eqv (is : List (Str × Is)) : PyData.eqv (isDs is) (.list []) = decide (is = []) := by
  cases is <;> simp [isDs, PyData.eqv, PyData.eqvAll]
theorem strs_eqv (zs : List Str) : PyData.eqv (.list (zs.map PyData.str)) (.list []) = decide (zs = []) := by
  cases zs <;> simp [PyData.eqv, PyData.eqvAll]
theorem one_eqv (p : Str × Is) : PyData.eqv (isDs [p]) (.list [.tuple [.str p.1, .str p.2.z]]) = true := by
  simp [isDs, isD, PyData.eqv, PyData.eqvAll]
theorem twiceM_mem : ∀ {xs : List Str} {p : Str × Is}, p ∈ twiceM xs → p.1 ∈ xs
  | x :: xs, p, h => by
    unfold twiceM at h
    split at h
    · rcases List.mem_cons.mp h with e | h
      · subst e; exact List.mem_cons_self
      · exact List.mem_cons_of_mem _ (twiceM_mem h)
    · exact List.mem_cons_of_mem _ (twiceM_mem h)
theorem fieldIss_name {s : Sc} {f : Fld} {p : Str × Is} (h : p ∈ fieldIss s f) : p.1 = f.name := by
  rcases List.mem_append.mp h with h | h
  · split at h
    · cases List.mem_singleton.mp h; rfl
    · cases h
  · obtain ⟨n, c, b⟩ := f
    cases b with
    | q k r =>
      cases k with
      | truth => cases h
      | text => cases h
      | integer lo hi =>
        obtain ⟨_, _, e⟩ := List.mem_map.mp h
        subst e; rfl
      | opts m os =>
        obtain ⟨_, _, e⟩ := List.mem_map.mp h
        subst e; rfl
    | fm e =>
      change p ∈ (if _ then [] else [(n, Is.formula)]) at h
      split at h
      · cases h
      · cases List.mem_singleton.mp h; rfl
    | rl e b =>
      change p ∈ (if _ then [] else [(n, Is.rule)]) at h
      split at h
      · cases h
      · cases List.mem_singleton.mp h; rfl
theorem issues_name {F : List Sct} {p : Str × Is} (h : p ∈ issuesM F) : p.1 ∈ allNames F := by
  rcases List.mem_append.mp h with h | h
  · exact twiceM_mem h
  · obtain ⟨⟨os, of, sc⟩, hpl, h⟩ := List.mem_flatMap.mp h
    obtain ⟨h1, h2⟩ := places_mem hpl
    cases of with
    | some f =>
      obtain ⟨s, hs, hf⟩ := h1 f rfl
      have h : p ∈ fieldIss sc f := h
      rw [fieldIss_name h]
      exact List.mem_flatMap.mpr ⟨s, hs, List.mem_cons_of_mem _ (List.mem_map.mpr ⟨f, hf, rfl⟩)⟩
    | none =>
      cases os with
      | none => cases h
      | some s =>
        have h : p ∈ (if isNo sc s.cond .truth = true then [(s.name, Is.condition)] else []) := h
        split at h
        · cases List.mem_singleton.mp h
          exact List.mem_flatMap.mpr ⟨s, h2 s rfl, List.mem_cons_self⟩
        · cases h
theorem names_ok : ∀ x ∈ sName ++ (List.range 12).map fnm, PyData.strOk x = true := by decide +kernel
end FF
/-! The exchange of fields. -/
namespace FF
open PySem L2
def HtD (D : List DS) : Prop := ∀ s ∈ D, OLow s.cond ∧ ∀ d ∈ s.fs, ∀ e ∈ exprsM d.1, e.ht ≤ 4
theorem HtD.s {D : List DS} (h : HtD D) {s : DS} (hs : s ∈ D) : SHt s.s := by
  obtain ⟨h1, h2⟩ := h s hs
  refine ⟨fun e he => Nat.lt_succ_of_le (h1 e he), fun f hf e he => ?_⟩
  obtain ⟨d, hd, rfl⟩ := List.mem_map.mp hf
  exact Nat.lt_succ_of_le (h2 d hd e he)
theorem HtD.f {D : List DS} (h : HtD D) : FHt 5 (D.map DS.s) := fun s hs => by
  obtain ⟨d, hd, rfl⟩ := List.mem_map.mp hs
  exact h.s hd
def szD (D : List DS) : Nat := (D.map fun s => s.fs.length + 1).sum
theorem szD_eq (D : List DS) : sizeF (D.map DS.s) = szD D := by
  simp [sizeF, szD, DS.s, List.map_map, Function.comp_def]
theorem szD_app (A B : List DS) : szD (A ++ B) = szD A + szD B := by simp [szD]
theorem szD_cons (s : DS) (B : List DS) : szD (s :: B) = s.fs.length + 1 + szD B := by simp [szD]
theorem szD_le : ∀ {D : List DS}, (∀ s ∈ D, s.fs.length ≤ 3) → szD D ≤ 4 * D.length
  | [], _ => Nat.le_refl _
  | s :: D, h => by
    have h1 := h s List.mem_cons_self
    have h2 := szD_le (D := D) fun x hx => h x (List.mem_cons_of_mem _ hx)
    rw [szD_cons, List.length_cons]
    omega
theorem StG.sz {D : List DS} {n : Nat} (g : StG D n) : szD D ≤ 12 := by
  have := szD_le fun s hs => (g.fs s hs).2
  have := g.le
  omega
theorem told_ok {D D' : List DS} {n : Nat} (g : StG D n) (p : (namesD D').Perm (namesD D)) : ∀ q ∈ issuesM (D'.map DS.s), PyData.strOk q.1 = true := fun q hq => by
  have := issues_name hq
  rw [allNames_s] at this
  exact names_ok _ (g.mem (p.mem_iff.mp this))
def spFEx : Sp := fun vs H Q _ => ∃ (v : V) (A B : List DS) (s : DS) (n : Nat), vs = [v, .int (A.length : Nat)] ∧ FrmAt H v ((A ++ s :: B).map DS.s) ∧ StG (A ++ s :: B) n ∧ ∀ H', Same H H' → Q (.bl true) H'
theorem s_mk (s : DS) (fs : List DF) : (s.mk' fs).s = ⟨s.s.name, s.s.cond, s.s.most, fs.map (·.1)⟩ := rfl
section
variable {P : Program} {w : World} {K : PySem.W.Frag} {mg : Str → Option Value} {base : Heap} {cSc cSv aW aP aN aO aA : Addr}
abbrev s_law_fields_exchanged : Stmt := top 40
theorem sc_law_fields_exchanged : FnScope ["_law_form_here", "_law_at", "_law_fields", "_law_k", "_law_turned", "_law_reads", "_law_told", "_law_pair"] ["_law_form_here", "_law_at"] (defScope s_law_fields_exchanged) := ⟨rfl, rfl, rfl, by decide +kernel, rfl, by decide +kernel, by decide +kernel⟩
theorem ok_fields_exchanged {f : Addr} {fd : FuncData} (T : Txt K mg w cSc cSv aW aP aN aO aA) (F : Fun K "_law_fields_exchanged" "_law_fields_exchanged" s_law_fields_exchanged f fd)
    (G_expressions_of : Has P w K mg base "expressions_of" 2 ["field"] spExprs) (G_law_names_of : Has P w K mg base "_law_names_of" 8 ["_law_expressions"] spNamesOf)
    (G_law_with : Has P w K mg base "_law_with" 1 ["_law_form_here", "_law_at", "_law_fields"] spWith) (G_issues : Has P w K mg base "issues" 15 ["form"] (spIssues 5)) :
    FnOk P w K mg base CX0 16 f fd ["_law_form_here", "_law_at"] spFEx := by
  refine F.ok sc_law_fields_exchanged (fun vs H Q E h => ?_) (fun cdv A outer s H vs Q E hr h => ?_)
  · obtain ⟨v, A, B, s, n, rfl, _⟩ := h
    rfl
  obtain ⟨v, DA, DB, sec, n, rfl, hF, st, k⟩ := h
  obtain ⟨fa, fvs0, rfl, hfa, al0⟩ := id hF
  refine ⟨_, (pss_cons (ps_set (i := 2) sc_law_fields_exchanged.nd rfl (Or.inl rfl) (pe_callTy call_list_ofN (by rfl) T.list (by decide +kernel) (pa_cons (pe_ix (r := rIxT K) ix_tup (pe_ix (r := rIxT K) ix_tup (pv 0) (pv 1) (fun _ _ => rfl)) pe_int (fun _ _ => rfl)) pa_nil)))
      (pss_cons (ps_for PassesOwn.never rfl (pi_range1 (by rfl) T.range (pa_cons (pe_op op_sub (pe_callB call_len_seq (by rfl) T.len (by decide +kernel) (pa_cons (pv 2) pa_nil)) pe_int) pa_nil)) (pg_name (i := 3) sc_law_fields_exchanged.nd rfl (Or.inl rfl) (hf := Or.inl rfl))
        (pss_cons (ps_set (i := 4) sc_law_fields_exchanged.nd rfl (Or.inl rfl) (pe_op op_catN (pe_op op_catN (pe_slice (r := uSlL K) sl_listN (pv 2) po_none (po_some (pv 3))) (pe_lstN (pa_cons (pe_ix (r := rIxL K) ix_list (pv 2) (pe_op op_add (pv 3) pe_int) (fun _ _ => rfl)) (pa_cons (pe_ix (r := rIxL K) ix_list (pv 2) (pv 3) (fun _ _ => rfl)) pa_nil)))) (pe_slice (r := uSlL K) sl_listN (pv 2) (po_some (pe_op op_add (pv 3) pe_int)) po_none)))
        (pss_cons (ps_set (i := 5) sc_law_fields_exchanged.nd rfl (Or.inl rfl) (pe_cmpR (r := rIn K false) op_in_seq (pe_ix (r := rIxT K) ix_tup (pe_ix (r := rIxL K) ix_list (pv 2) (pv 3) (fun _ _ => rfl)) pe_int (fun _ _ => rfl)) (pe_callH G_law_names_of (hr.mono (by omega)) (by rfl) (pa_cons (pe_callH G_expressions_of (hr.mono (by omega)) (by rfl) (pa_cons (pe_ix (r := rIxL K) ix_list (pv 2) (pe_op op_add (pv 3) pe_int) (fun _ _ => rfl)) pa_nil)) pa_nil)) (by rfl)))
        (pss_cons (ps_set (i := 6) sc_law_fields_exchanged.nd rfl (Or.inl rfl) (pe_callH G_issues (hr.mono (by omega)) (by rfl) (pa_cons (pe_callH G_law_with (hr.mono (by omega)) (by rfl) (pa_cons (pv 0) (pa_cons (pv 1) (pa_cons (pv 4) pa_nil)))) pa_nil)))
        (pss_one (ps_if (PW.pt (pw_or (pt_cmpR op_eq (pe_cmpR (op_eqD hr.units) (pv 6) (pe_lstN pa_nil) (nomark _)) (pv 5) (nomark _)) (pw_or1 (PW.pt (pw_and (pt_val (pv 5)) (pw_and1 (pt_cmpR (r := rIn K true) op_notIn_seq (pe_ix (r := rIxT K) ix_tup (pe_ix (r := rIxL K) ix_list (pv 2) (pe_op op_add (pv 3) pe_int) (fun _ _ => rfl)) pe_int (fun _ _ => rfl)) (pe_lc (own := [("_law_pair", 7)]) (g := gName 7) (by rfl) sc_law_fields_exchanged.nd (pi_list (pv 6)) (blkOk_by (N := ["_law_form_here", "_law_at", "_law_fields", "_law_k", "_law_turned", "_law_reads", "_law_told", "_law_pair"]) (sc := defScope s_law_fields_exchanged) (by decide +kernel)) (fun _ _ _ _ _ => pg_name (i := 7) sc_law_fields_exchanged.nd rfl (Or.inl rfl) (hf := Or.inr rfl)) (fun _ _ _ _ _ => pts_nil) (fun _ _ _ _ _ => (pe_ix (r := rIxT K) ix_tup (pv 7) pe_int (fun _ _ => rfl)))) (by rfl))))))))
          (pss_one (ps_ret pe_bl))
          pss_nil))))))
      (pss_one (ps_ret pe_bl)))), ?_⟩
  have rt := st.right
  have hm : sec ∈ DA ++ sec :: DB := by simp
  have hfl := st.fs sec hm
  have hht := st.ht sec hm
  have hD : HtD (DA ++ sec :: DB) := st.ht
  obtain ⟨sv, esv, hsv⟩ := al0.getR (i := DA.length) (b := sec.s) (by simp)
  obtain ⟨sa, x, fb, fvs, rfl, hsa, ox, hfb, al⟩ := hsv
  have al : All2 (FldAt H) fvs (sec.fs.map (·.1)) := al
  have len : fvs.length = sec.fs.length := by rw [al.len, List.length_map]
  refine ⟨_, rfl, _, rfl, fa, _, (DA.length : Nat), _, rfl, rfl, sq_tup hfa, atI_nat esv, sa, _, 3, _, rfl, rfl, sq_tup hsa, at3, fb, fvs, rfl, .inr (sq_tup hfb), fun l H1 nl s1 h1 => ?_⟩
  refine ⟨_, rfl, l, _, rfl, .inl (SqL.of h1), _, _, rfl, rfl, _, rfl, by omega, by omega, ?_⟩
  refine for_range (fun i σ H' => ∃ u3 u4 u5 u6 u7, σ = [some (.ref fa), some (.int (DA.length : Nat)), some (.ref l), u3, u4, u5, u6, u7] ∧ Same H1 H')
    ⟨_, _, _, _, _, rfl, Same.refl _⟩ ?_ ?_
  · rintro i σ H2 hi ⟨u3, u4, u5, u6, u7, rfl, s2⟩
    have hi : i + 1 < sec.fs.length := by omega
    have e0 : (0 + (i : Int)) = ((i : Nat) : Int) := Int.zero_add _
    have e1 : (0 + (i : Int)) + 1 = ((i + 1 : Nat) : Int) := by omega
    have e2 : (0 + (i : Int)) + 2 = ((i + 2 : Nat) : Int) := by omega
    have efs : sec.fs = sec.fs.take i ++ sec.fs[i] :: sec.fs[i + 1] :: sec.fs.drop (i + 2) := by
      conv => lhs; rw [← List.take_append_drop i sec.fs]
      rw [List.drop_eq_getElem_cons (show i < sec.fs.length by omega), List.drop_eq_getElem_cons hi]
    generalize hu' : sec.fs[i] = u at efs
    generalize hw' : sec.fs[i + 1] = wf at efs
    obtain ⟨fu, efu, hfu⟩ := al.getR (i := i) (b := u.1) (by rw [List.getElem?_map, List.getElem?_eq_getElem (show i < sec.fs.length by omega), hu']; rfl)
    obtain ⟨fw, efw, hfw⟩ := al.getR (i := i + 1) (b := wf.1) (by rw [List.getElem?_map, List.getElem?_eq_getElem hi, hw']; rfl)
    have hum : u ∈ sec.fs := by rw [← hu']; exact List.getElem_mem _
    have hwm : wf ∈ sec.fs := by rw [← hw']; exact List.getElem_mem _
    have fw5 : ∀ e ∈ exprsM wf.1, e.ht < 5 := fun e he => Nat.lt_succ_of_le (hht.2 wf hwm e he)
    have h2 := s2 _ _ h1
    have i0 : atI fvs (0 + (i : Int)) = some fu := by rw [e0]; exact atI_nat efu
    have i1 : atI fvs (0 + (i : Int) + 1) = some fw := by rw [e1]; exact atI_nat efw
    refine ⟨_, rfl, _, rfl, _, rfl, l, _, rfl, SqL.of h2, fun a1 H3 na1 s3 h3 => ?_⟩
    rw [e0, cut_to (show i ≤ fvs.length by omega)] at h3
    refine ⟨_, rfl, _, rfl, _, _, rfl, rfl, l, _, _, _, rfl, rfl, SqL.of (s3 _ _ h2), i1, _, rfl, _, rfl, l, _, _, _, rfl, rfl, SqL.of (s3 _ _ h2), i0, le_line (by simp), fun a2 H4 na2 s4 h4 => ⟨a1, a2, _, _, rfl, rfl, s4 _ _ h3, h4, le_line (by simp; omega), fun a3 H5 na3 s5 h5 => ?_⟩⟩
    have s25 := (s3.trans s4).trans s5
    refine ⟨_, rfl, _, rfl, _, _, rfl, rfl, _, rfl, l, _, rfl, SqL.of (s25 _ _ h2), fun a4 H6 na4 s6 h6 => ?_⟩
    rw [e2, cut_from (show i + 2 ≤ fvs.length by omega)] at h6
    refine ⟨a3, a4, _, _, rfl, rfl, s6 _ _ h5, h6, le_line (by simp; omega), fun a5 H7 na5 s7 h7 => ?_⟩
    have s27 := (s25.trans s6).trans s7
    have s07 := (s1.trans s2).trans s27
    have h27 := s27 _ _ h2
    obtain ⟨fua, fz, fx, fy, fr, rfl, hfua, _, _⟩ := (hfu.tm (tm_same s07)).view
    refine ⟨_, rfl, _, rfl, l, _, _, _, rfl, rfl, SqL.of h27, i0, fua, _, 1, _, rfl, rfl, sq_tup hfua, at1, ?_⟩
    have hfw7 := hfw.tm (tm_same s07)
    refine ⟨_, rfl, _, rfl, _, _, rfl, rfl, l, _, _, _, rfl, rfl, SqL.of h27, i1, wf.1, _, rfl, hfw7, fun p xs H8 s8 h8 al8 => ⟨p, xs, _, rfl, h8, al8, fw5, exprs_len hfw7, fun l9 zs H9 nl9 s9 h9 hz9 zl9 => ⟨l9, _, rfl, .inl (SqL.of h9), rfl, flatS _, ?_⟩⟩⟩
    have s79 := s8.trans s9
    have s09 := s07.trans s79
    have hin : inV (V.str u.1.name) (zs.map V.str) = decide (u.1.name ∈ readsF wf.1) := by
      rw [inV_str]
      exact decide_eq_decide.mpr (hz9 _)
    have al' : All2 (FldAt H9) (fvs.take i ++ [fw, .ref fua] ++ fvs.drop (i + 2)) ((sec.fs.take i ++ wf :: u :: sec.fs.drop (i + 2)).map (·.1)) := by
      have z := al.imp fun _ _ z => z.tm (tm_same s09)
      have z1 := z.take i
      have z2 := z.drop (i + 2)
      rw [← List.map_take] at z1
      rw [← List.map_drop] at z2
      rw [List.map_append, List.append_assoc]
      exact z1.app ⟨hfw7.tm (tm_same s79), (hfu.tm (tm_same s07)).tm (tm_same s79), z2⟩
    refine ⟨_, rfl, _, rfl, _, rfl, .ref fa, (DA ++ sec :: DB).map DS.s, DA.map DS.s, DB.map DS.s, sec.s, a5, _, _, by rw [List.length_map]; rfl, hF.tm (tm_same s09), by simp, by have := st.le; simp at this ⊢; omega, .inl (s79 _ _ h7), al', fun v' H10 s10 f10 => ?_⟩
    have eF : (DA.map DS.s ++ (⟨sec.s.name, sec.s.cond, sec.s.most, (sec.fs.take i ++ wf :: u :: sec.fs.drop (i + 2)).map (·.1)⟩ : Sct) :: DB.map DS.s) = (DA ++ sec.mk' (sec.fs.take i ++ wf :: u :: sec.fs.drop (i + 2)) :: DB).map DS.s := by
      exact (List.map_append (f := DS.s) (l₁ := DA) (l₂ := sec.mk' (sec.fs.take i ++ wf :: u :: sec.fs.drop (i + 2)) :: DB)).symm
    rw [eF] at f10
    have hD' : HtD (DA ++ sec.mk' (sec.fs.take i ++ wf :: u :: sec.fs.drop (i + 2)) :: DB) := fun d hd => by
      rcases List.mem_append.mp hd with hd | hd
      · exact hD d (List.mem_append_left _ hd)
      · rcases List.mem_cons.mp hd with e | hd
        · subst e
          refine ⟨hht.1, fun d hd => hht.2 d ?_⟩
          rw [efs]
          simp only [List.mem_append, List.mem_cons] at hd ⊢
          rcases hd with h | h | h | h
          · exact .inl h
          · exact .inr (.inr (.inl h))
          · exact .inr (.inl h)
          · exact .inr (.inr (.inr h))
        · exact hD d (List.mem_append_right _ (List.mem_cons_of_mem _ hd))
    have elen : (sec.fs.take i ++ wf :: u :: sec.fs.drop (i + 2)).length = sec.fs.length := by
      simp
      omega
    have hsz : sizeF ((DA ++ sec.mk' (sec.fs.take i ++ wf :: u :: sec.fs.drop (i + 2)) :: DB).map DS.s) ≤ 50 := by
      have := st.sz
      rw [szD_eq, szD_app, szD_cons]
      rw [szD_app, szD_cons] at this
      show szD DA + ((sec.fs.take i ++ wf :: u :: sec.fs.drop (i + 2)).length + 1 + szD DB) ≤ 50
      rw [elen]
      omega
    have pm : (namesD (DA ++ sec.mk' (sec.fs.take i ++ wf :: u :: sec.fs.drop (i + 2)) :: DB)).Perm (namesD (DA ++ sec :: DB)) := by
      rw [namesD_app, namesD_app]
      refine List.Perm.append_left _ ?_
      show (sec.name :: (sec.fs.take i ++ wf :: u :: sec.fs.drop (i + 2)).map (fun f => f.1.name) ++ namesD DB).Perm (sec.name :: sec.fs.map (fun f => f.1.name) ++ namesD DB)
      conv => rhs; rw [efs]
      exact List.Perm.append_right _ (.cons _ ((List.Perm.append_left _ (List.Perm.swap ..)).map _))
    refine ⟨_, v', rfl, f10, hD'.f, hsz, fun l11 H11 s11 nl11 is11 ilen => ?_⟩
    have sok := told_ok st pm
    have sw1 := swap_right (A := DA) (B := DB) (s := sec) rt efs
    have sw2 := swap_told (A := DA) (B := DB) (s := sec) rt efs
    generalize issuesM ((DA ++ sec.mk' (sec.fs.take i ++ wf :: u :: sec.fs.drop (i + 2)) :: DB).map DS.s) = is at is11 ilen sok sw1 sw2
    refine ⟨_, rfl, Nat.zero_le _, fun a12 H12 n12 s12 h12 => ?_⟩
    obtain ⟨ivs, hl11, ial⟩ := is11
    have is12 : IsAt H12 l11 is := ⟨ivs, s12 _ _ hl11, ial.imp fun _ _ z => z.tm (tm_same s12)⟩
    refine ⟨_, _, is12.dp, .lst (SqL.of h12) .nil, isds_shaped sok, nil_shaped, _, rfl, rfl, _, rfl, ?_⟩
    rw [isds_eqv]
    show if decide (V.bl (decide (is = [])) = V.bl (inV (V.str u.1.name) (zs.map V.str))) = true then _ else _
    have s212 := ((s27.trans s79).trans s10).trans (s11.trans s12)
    by_cases hr2 : u.1.name ∈ readsF wf.1
    · obtain ⟨j, hj⟩ := sw2 hr2
      have ni : ¬ is = [] := fun e => by rw [e] at hj; cases hj
      refine it_n (by rw [hin, decide_eq_true hr2, decide_eq_false ni]; rfl) ?_
      refine ⟨_, rfl, _, rfl, it_y (by show inV (V.str u.1.name) (zs.map V.str) = true; rw [hin]; exact decide_eq_true hr2) ?_⟩
      obtain ⟨fwa, wz, wx, wy, wr, rfl, hfwa, _, _⟩ := (hfw.tm (tm_same ((s1.trans s2).trans s212))).view
      refine ⟨_, rfl, _, rfl, _, _, rfl, rfl, l, _, _, _, rfl, rfl, SqL.of (s212 _ _ h2), i1, fwa, _, 1, _, rfl, rfl, sq_tup hfwa, at1, ?_⟩
      refine ⟨_, rfl, l11, rfl, ⟨_, SqL.of (s12 _ _ hl11)⟩, fun D nD => ?_⟩
      refine lc_list (K := K) (a := l11) (xs := ivs) (fun j H' => Same H12 H' ∧ H' D = some (.lst (((is.take j).map (·.1)).map V.str)))
        ⟨same_upd nD, upd_same⟩ (fun j H' _ ⟨s', _⟩ => SqL.of (s' _ _ (s12 _ _ hl11))) ?_ ?_
      · rintro j y H13 hj ⟨s13, hDD⟩
        obtain ⟨ip, hip, hy⟩ := ial.get hj
        obtain ⟨ya, rfl, hya⟩ := (hy.tm (tm_same (s12.trans s13)))
        have := (List.getElem?_eq_some_iff.mp hip).1
        refine ⟨rfl, ?_⟩
        refine ⟨_, rfl, ya, _, 0, _, rfl, rfl, sq_tup hya, at0, _, hDD, lt_line ?_, same_but s13 but_upd nD, ?_⟩
        · rw [List.length_map, List.length_map, List.length_take]
          omega
        · rw [upd_same, take_snoc hip, List.map_append, List.map_append]
          rfl
      · rintro H13 ⟨s13, hDD⟩
        have et : is.take ivs.length = is := List.take_of_length_le (by rw [ial.len]; exact Nat.le_refl _)
        rw [et] at hDD
        refine ⟨D, _, rfl, .inl (SqL.of hDD), rfl, flatS _, _, rfl, it_n ?_ ?_⟩
        · show (!inV (V.str wf.1.name) ((is.map (·.1)).map V.str)) = false
          rw [inV_str, decide_eq_true (List.mem_map.mpr ⟨_, hj, rfl⟩)]
          rfl
        · exact ⟨_, _, _, _, _, rfl, s2.trans (s212.trans s13)⟩
    · have ei := sw1 hr2
      refine it_n (by rw [hin, decide_eq_false hr2, decide_eq_true ei]; rfl) ?_
      refine ⟨_, rfl, _, rfl, it_n (by show inV (V.str u.1.name) (zs.map V.str) = false; rw [hin]; exact decide_eq_false hr2) (it_n rfl ?_)⟩
      exact ⟨_, _, _, _, _, rfl, s2.trans s212⟩
  · rintro σ H2 ⟨u3, u4, u5, u6, u7, rfl, s2⟩
    exact k H2 (s1.trans s2)
end
end FF
/-! The exchange of sections. -/
namespace FF
open PySem L2
def spSEx : Sp := fun vs H Q _ => ∃ (v : V) (D : List DS) (n : Nat), vs = [v] ∧ FrmAt H v (D.map DS.s) ∧ StG D n ∧ ∀ H', Same H H' → Q (.bl true) H'
theorem shape_name (s : DS) : namesDS s = s.name :: (s.fs.map (·.1)).map (·.name) := by simp [namesDS, List.map_map, Function.comp_def]
section
variable {P : Program} {w : World} {K : PySem.W.Frag} {mg : Str → Option Value} {base : Heap} {cSc cSv aW aP aN aO aA : Addr}
abbrev s_law_sections_exchanged : Stmt := top 41
theorem sc_law_sections_exchanged : FnScope ["_law_form_here", "_law_at", "_law_own", "_law_reads", "_law_told", "_law_field_here", "_law_name"] ["_law_form_here"] (defScope s_law_sections_exchanged) := ⟨rfl, rfl, rfl, by decide +kernel, rfl, by decide +kernel, by decide +kernel⟩
theorem ok_sections_exchanged {f : Addr} {fd : FuncData} (T : Txt K mg w cSc cSv aW aP aN aO aA) (F : Fun K "_law_sections_exchanged" "_law_sections_exchanged" s_law_sections_exchanged f fd)
    (G_law_section_reads : Has P w K mg base "_law_section_reads" 9 ["_law_section"] spReads) (G_issues : Has P w K mg base "issues" 15 ["form"] (spIssues 5)) :
    FnOk P w K mg base CX0 16 f fd ["_law_form_here"] spSEx := by
  refine F.ok sc_law_sections_exchanged (fun vs H Q E h => ?_) (fun cdv A outer s H vs Q E hr h => ?_)
  · obtain ⟨v, D, n, rfl, _⟩ := h
    rfl
  obtain ⟨v, DD, n, rfl, hF, st, k⟩ := h
  obtain ⟨fa, fvs0, rfl, hfa, al0⟩ := id hF
  have hu := hu_of hr
  refine ⟨_, (pss_cons (ps_for PassesOwn.never rfl (pi_range1 (by rfl) T.range (pa_cons (pe_op op_sub (pe_callB call_len_seq (by rfl) T.len (by decide +kernel) (pa_cons (pv 0) pa_nil)) pe_int) pa_nil)) (pg_name (i := 1) sc_law_sections_exchanged.nd rfl (Or.inl rfl) (hf := Or.inl rfl))
        (pss_cons (ps_set (i := 2) sc_law_sections_exchanged.nd rfl (Or.inr rfl) (pe_op op_catN (pe_lstN (pa_cons (pe_ix (r := rIxT K) ix_tup (pe_ix (r := rIxT K) ix_tup (pv 0) (pv 1) (fun _ _ => rfl)) pe_int (fun _ _ => rfl)) pa_nil)) (pe_lc (own := [("_law_field_here", 5)]) (g := gName 5) (by rfl) sc_law_sections_exchanged.nd (pi_tup (pe_ix (r := rIxT K) ix_tup (pe_ix (r := rIxT K) ix_tup (pv 0) (pv 1) (fun _ _ => rfl)) pe_int (fun _ _ => rfl))) (blkOk_by (N := ["_law_form_here", "_law_at", "_law_own", "_law_reads", "_law_told", "_law_field_here", "_law_name"]) (sc := defScope s_law_sections_exchanged) (by decide +kernel)) (fun _ _ _ _ _ => pg_name (i := 5) sc_law_sections_exchanged.nd rfl (Or.inl rfl) (hf := Or.inr rfl)) (fun _ _ _ _ _ => pts_nil) (fun _ _ _ _ _ => (pe_ix (r := rIxT K) ix_tup (pv 5) pe_int (fun _ _ => rfl))))))
        (pss_cons (ps_setLc (i := 3) (own := [("_law_name", 6)]) (g := gName 6) (by rfl) sc_law_sections_exchanged.nd rfl rfl (sw_true rfl rfl rfl (by decide +kernel)) (pi_list (pe_callH G_law_section_reads (hr.mono (by omega)) (by rfl) (pa_cons (pe_ix (r := rIxT K) ix_tup (pv 0) (pe_op op_add (pv 1) pe_int) (fun _ _ => rfl)) pa_nil))) (blkOk_by (N := ["_law_form_here", "_law_at", "_law_own", "_law_reads", "_law_told", "_law_field_here", "_law_name"]) (sc := defScope s_law_sections_exchanged) (by decide +kernel)) (fun _ _ _ _ _ => pg_name (i := 6) sc_law_sections_exchanged.nd rfl (Or.inl rfl) (hf := Or.inr rfl)) (fun _ _ _ _ _ => pts_one (pt_cmpR (r := rIn K false) op_in_seq (pv 6) (pv 2) (by rfl))) (fun _ _ _ _ _ => (pv 6)))
        (pss_cons (ps_set (i := 4) sc_law_sections_exchanged.nd rfl (Or.inl rfl) (pe_callH G_issues (hr.mono (by omega)) (by rfl) (pa_cons (pe_op op_catAN (pe_op op_catAN (pe_slice sl_tupN (pv 0) po_none (po_some (pv 1))) (pe_tupN (pa_cons (pe_ix (r := rIxT K) ix_tup (pv 0) (pe_op op_add (pv 1) pe_int) (fun _ _ => rfl)) (pa_cons (pe_ix (r := rIxT K) ix_tup (pv 0) (pv 1) (fun _ _ => rfl)) pa_nil)))) (pe_slice sl_tupN (pv 0) (po_some (pe_op op_add (pv 1) pe_int)) po_none)) pa_nil)))
        (pss_one (ps_if (pt_cmpR op_eq (pe_cmpR (op_eqD hr.units) (pv 4) (pe_lstN pa_nil) (nomark _)) (pe_cmpR (op_neD hr.units) (pv 3) (pe_lstN pa_nil) (nomark _)) (nomark _))
          (pss_one (ps_ret pe_bl))
          pss_nil))))))
      (pss_one (ps_ret pe_bl))), ?_⟩
  have rt := st.right
  have hD : HtD DD := st.ht
  have len0 : fvs0.length = DD.length := by rw [al0.len, List.length_map]
  have sle := st.le
  refine ⟨_, rfl, fa, _, rfl, .inr (sq_tup hfa), _, _, rfl, rfl, _, rfl, by omega, by omega, ?_⟩
  refine for_range (fun i σ H' => ∃ u1 u2 u3 u4 u5 u6, σ = [some (.ref fa), u1, u2, u3, u4, u5, u6] ∧ Same H H')
    ⟨_, _, _, _, _, _, rfl, Same.refl _⟩ ?_ ?_
  · rintro i σ H2 hi ⟨u1, u2, u3, u4, u5, u6, rfl, s2⟩
    have hi : i + 1 < DD.length := by omega
    have e0 : (0 + (i : Int)) = ((i : Nat) : Int) := Int.zero_add _
    have e1 : (0 + (i : Int)) + 1 = ((i + 1 : Nat) : Int) := by omega
    have e2 : (0 + (i : Int)) + 2 = ((i + 2 : Nat) : Int) := by omega
    have efs : DD = DD.take i ++ DD[i] :: DD[i + 1] :: DD.drop (i + 2) := by
      conv => lhs; rw [← List.take_append_drop i DD]
      rw [List.drop_eq_getElem_cons (show i < DD.length by omega), List.drop_eq_getElem_cons hi]
    generalize hu' : DD[i] = u at efs
    generalize hw' : DD[i + 1] = wf at efs
    obtain ⟨fu, efu, hfu⟩ := al0.getR (i := i) (b := u.s) (by rw [List.getElem?_map, List.getElem?_eq_getElem (show i < DD.length by omega), hu']; rfl)
    obtain ⟨fw, efw, hfw⟩ := al0.getR (i := i + 1) (b := wf.s) (by rw [List.getElem?_map, List.getElem?_eq_getElem hi, hw']; rfl)
    have hum : u ∈ DD := by rw [← hu']; exact List.getElem_mem _
    have hwm : wf ∈ DD := by rw [← hw']; exact List.getElem_mem _
    have h2 := s2 _ _ hfa
    have i0 : atI fvs0 (0 + (i : Int)) = some fu := by rw [e0]; exact atI_nat efu
    have i1 : atI fvs0 (0 + (i : Int) + 1) = some fw := by rw [e1]; exact atI_nat efw
    have hfu2 := hfu.tm (tm_same s2)
    obtain ⟨ua, ux, ub, uvs, rfl, hua, uox, hub, ual⟩ := hfu2
    have ulen := (st.fs u hum).2
    have ual : All2 (FldAt H2) uvs (u.fs.map (·.1)) := ual
    have ulen2 : uvs.length = u.fs.length := by rw [ual.len, List.length_map]
    refine ⟨_, rfl, _, rfl, fa, _, _, _, rfl, rfl, sq_tup h2, i0, ua, _, 0, _, rfl, rfl, sq_tup hua, at0, le_line (by simp), fun a1 H3 na1 s3 h3 => ?_⟩
    refine ⟨_, rfl, _, rfl, fa, _, _, _, rfl, rfl, sq_tup (s3 _ _ h2), i0, ua, _, 3, _, rfl, rfl, sq_tup (s3 _ _ hua), at3, ub, rfl, ⟨_, sq_tup (s3 _ _ hub)⟩, fun D1 nD1 => ?_⟩
    refine lc_tup (K := K) (a := ub) (xs := uvs) (fun j H' => Same H3 H' ∧ H' D1 = some (.lst ((((u.fs.map (·.1)).take j).map (·.name)).map V.str)))
      ⟨same_upd nD1, upd_same⟩ (fun j H' _ ⟨s', _⟩ => sq_tup (s' _ _ (s3 _ _ hub))) ?_ ?_
    · rintro j y H4 hj ⟨s4, hDD⟩
      obtain ⟨fl, hfl, hy⟩ := ual.get hj
      obtain ⟨ya, yz, yx, yy, yr, rfl, hya, _, _⟩ := (hy.tm (tm_same (s3.trans s4))).view
      have := (List.getElem?_eq_some_iff.mp hfl).1
      refine ⟨rfl, ?_⟩
      refine ⟨_, rfl, ya, _, 1, _, rfl, rfl, sq_tup hya, at1, _, hDD, lt_line ?_, same_but s4 but_upd nD1, ?_⟩
      · rw [List.length_map, List.length_map, List.length_take]
        rw [List.length_map] at this ⊢
        omega
      · rw [upd_same, take_snoc hfl, List.map_append, List.map_append]
        rfl
    rintro H4 ⟨s4, hD1⟩
    have et : (u.fs.map (·.1)).take uvs.length = u.fs.map (·.1) := List.take_of_length_le (by rw [List.length_map]; omega)
    rw [et] at hD1
    refine ⟨a1, D1, _, _, rfl, rfl, s4 _ _ h3, hD1, le_line (by simp; omega), fun a2 H5 na2 s5 h5 => ?_⟩
    have h5 : H5 a2 = some (.lst ((namesDS u).map V.str)) := by rw [h5, shape_name]; rfl
    have s25 := (s3.trans s4).trans s5
    -- what the next section reads of it
    have hfw5 := hfw.tm (tm_same (s2.trans s25))
    refine ⟨_, rfl, _, rfl, _, _, rfl, rfl, fa, _, _, _, rfl, rfl, sq_tup (s25 _ _ h2), i1, fw, wf.s, rfl, hfw5, hD.s hwm, by have := (st.fs wf hwm).2; simpa [DS.s] using this, fun l zs H6 nl s6 h6 hz zl => ?_⟩
    refine ⟨l, rfl, ⟨_, SqL.of h6⟩, fun D2 nD2 => ?_⟩
    refine lc_list (K := K) (a := l) (xs := zs.map V.str) (fun j H' => Same H6 H' ∧ H' D2 = some (.lst (((zs.take j).filter fun y => decide (y ∈ namesDS u)).map V.str)))
      ⟨same_upd nD2, upd_same⟩ (fun j H' _ ⟨s', _⟩ => SqL.of (s' _ _ h6)) ?_ ?_
    · rintro j y H7 hj ⟨s7, hDD⟩
      have hjl : j < zs.length := by
        have := (List.getElem?_eq_some_iff.mp hj).1
        rwa [List.length_map] at this
      rw [List.getElem?_map, List.getElem?_eq_getElem hjl] at hj
      obtain rfl : V.str zs[j] = y := Option.some.inj hj
      have tk : zs.take (j + 1) = zs.take j ++ [zs[j]] := take_snoc (List.getElem?_eq_getElem hjl)
      refine ⟨rfl, ?_⟩
      refine ⟨_, rfl, _, rfl, a2, _, rfl, .inl (SqL.of (s7 _ _ (s6 _ _ h5))), rfl, flatS _, _, rfl, ?_⟩
      show if inV (V.str zs[j]) ((namesDS u).map V.str) = true then _ else _
      rw [inV_str]
      refine ite2 (fun c => ?_) (fun c => ?_)
      · refine ⟨_, rfl, _, hDD, lt_line ?_, same_but s7 but_upd nD2, ?_⟩
        · rw [List.length_map]
          refine Nat.le_trans (List.length_filter_le ..) ?_
          rw [List.length_take]
          omega
        · have fy : [zs[j]].filter (fun y => decide (y ∈ namesDS u)) = [zs[j]] := by
            have c := of_decide_eq_true c
            simp [c]
          rw [upd_same, tk, List.filter_append, fy, List.map_append]
          rfl
      · refine ⟨s7, ?_⟩
        have fy : [zs[j]].filter (fun y => decide (y ∈ namesDS u)) = [] := by
          have c : ¬ zs[j] ∈ namesDS u := fun z => c (decide_eq_true z)
          simp [c]
        rw [hDD, tk, List.filter_append, fy, List.append_nil]
    rintro H7 ⟨s7, hD2⟩
    have et2 : zs.take (zs.map V.str).length = zs := List.take_of_length_le (by rw [List.length_map]; exact Nat.le_refl _)
    rw [et2] at hD2
    have s27 := (s25.trans s6).trans s7
    have h7 := s27 _ _ h2
    -- the form with both exchanged
    refine ⟨_, rfl, _, rfl, _, rfl, fa, _, rfl, h7, fun a3 H8 s8 h8 => ?_⟩
    rw [e0, cut_to (show i ≤ fvs0.length by omega)] at h8
    refine ⟨_, rfl, _, rfl, _, _, rfl, rfl, fa, _, _, _, rfl, rfl, sq_tup (s8 _ _ h7), i1, _, rfl, _, rfl, fa, _, _, _, rfl, rfl, sq_tup (s8 _ _ h7), i0, le_line (by simp), fun a4 H9 na4 s9 h9 => ⟨a3, a4, _, _, rfl, rfl, s9 _ _ h8, h9, le_line (by simp; omega), fun a5 H10 s10 h10 => ?_⟩⟩
    have s7_10 := (s8.trans s9).trans s10
    refine ⟨_, rfl, _, rfl, _, _, rfl, rfl, _, rfl, fa, _, rfl, s7_10 _ _ h7, fun a6 H11 s11 h11 => ?_⟩
    rw [e2, cut_from (show i + 2 ≤ fvs0.length by omega)] at h11
    refine ⟨a5, a6, _, _, rfl, rfl, s11 _ _ h10, h11, le_line (by simp; omega), fun a7 H12 s12 h12 => ?_⟩
    have s7_12 := (s7_10.trans s11).trans s12
    have s0_12 := (s2.trans s27).trans s7_12
    have fr : FrmAt H12 (.ref a7) ((DD.take i ++ wf :: u :: DD.drop (i + 2)).map DS.s) := by
      have z := al0.imp fun _ _ z => z.tm (tm_same s0_12)
      have z1 := z.take i
      have z2 := z.drop (i + 2)
      rw [← List.map_take] at z1
      rw [← List.map_drop] at z2
      refine ⟨a7, _, rfl, h12, ?_⟩
      rw [List.map_append, List.append_assoc]
      exact z1.app ⟨hfw.tm (tm_same s0_12), hfu.tm (tm_same s0_12), z2⟩
    have hD' : HtD (DD.take i ++ wf :: u :: DD.drop (i + 2)) := fun d hd => by
      refine hD d ?_
      rw [efs]
      simp only [List.mem_append, List.mem_cons] at hd ⊢
      rcases hd with h | h | h | h
      · exact .inl h
      · exact .inr (.inr (.inl h))
      · exact .inr (.inl h)
      · exact .inr (.inr (.inr h))
    have hsz : sizeF ((DD.take i ++ wf :: u :: DD.drop (i + 2)).map DS.s) ≤ 50 := by
      have := st.sz
      rw [efs, szD_app, szD_cons, szD_cons] at this
      rw [szD_eq, szD_app, szD_cons, szD_cons]
      omega
    refine ⟨_, _, rfl, fr, hD'.f, hsz, fun l13 H13 s13 nl13 is13 ilen => ?_⟩
    have rt' : Right (DD.take i ++ u :: wf :: DD.drop (i + 2)) := efs ▸ rt
    have pm : (namesD (DD.take i ++ wf :: u :: DD.drop (i + 2))).Perm (namesD DD) := by
      conv => rhs; rw [efs]
      rw [namesD_app, namesD_app]
      refine List.Perm.append_left _ ?_
      show (namesDS wf ++ (namesDS u ++ namesD (DD.drop (i + 2)))).Perm (namesDS u ++ (namesDS wf ++ namesD (DD.drop (i + 2))))
      rw [← List.append_assoc, ← List.append_assoc]
      exact List.Perm.append_right _ List.perm_append_comm
    have sok := told_ok st pm
    have sw1 := secs_ok rt'
    have sw2 : ∀ {x : Str}, x ∈ readsS wf.s → x ∈ namesDS u → _ := fun h1 h2 => secs_told rt' h1 h2
    generalize issuesM ((DD.take i ++ wf :: u :: DD.drop (i + 2)).map DS.s) = is at is13 ilen sok sw1 sw2
    have rok : ∀ y ∈ zs.filter (fun y => decide (y ∈ namesDS u)), PyData.strOk y = true := fun y hy => by
      have := of_decide_eq_true (List.mem_filter.mp hy).2
      exact names_ok _ (st.mem (List.mem_flatMap.mpr ⟨u, hum, this⟩))
    have rsv : zs.filter (fun y => decide (y ∈ namesDS u)) = [] ↔ is = [] := by
      constructor
      · intro e
        refine sw1 fun x hx hn => ?_
        have : x ∈ zs.filter (fun y => decide (y ∈ namesDS u)) := List.mem_filter.mpr ⟨(hz x).mpr hx, decide_eq_true hn⟩
        rw [e] at this
        cases this
      · intro e
        rw [List.filter_eq_nil_iff]
        intro x hx hn
        exact sw2 ((hz x).mp hx) (of_decide_eq_true hn) e
    have hD2' := s13 _ _ (s7_12 _ _ hD2)
    generalize zs.filter (fun y => decide (y ∈ namesDS u)) = rs at hD2' rok rsv
    refine ⟨_, rfl, Nat.zero_le _, fun a14 H14 n14 s14 h14 => ?_⟩
    obtain ⟨ivs, hl13, ial⟩ := is13
    have is14 : IsAt H14 l13 is := ⟨ivs, s14 _ _ hl13, ial.imp fun _ _ z => z.tm (tm_same s14)⟩
    refine ⟨_, _, is14.dp, .lst (SqL.of h14) .nil, isds_shaped sok, nil_shaped, ?_⟩
    refine ⟨_, rfl, Nat.zero_le _, fun a15 H15 n15 s15 h15 => ?_⟩
    refine ⟨_, _, .lst (SqL.of (s15 _ _ (s14 _ _ hD2'))) strs_dp, .lst (SqL.of h15) .nil, strs_shaped rok, nil_shaped, rfl, _, rfl, ?_⟩
    rw [isds_eqv, strs_eqv]
    have ev : decide (V.bl (decide (is = [])) = V.bl (!decide (rs = []))) = false := by
      by_cases e : rs = []
      · rw [decide_eq_true e, decide_eq_true (rsv.mp e)]; rfl
      · rw [decide_eq_false e, decide_eq_false fun z => e (rsv.mpr z)]; rfl
    refine it_n ev ?_
    exact ⟨_, _, _, _, _, _, rfl, (s0_12.trans s13).trans (s14.trans s15)⟩
  · rintro σ H2 ⟨u1, u2, u3, u4, u5, u6, rfl, s2⟩
    exact k H2 s2
end
end FF
/-! A name twice; the law. -/
namespace FF
open PySem L2
theorem at_last {xs : List V} {n : Nat} {v : V} (hl : xs.length = n + 1) (h : xs[n]? = some v) : atI xs (-1 : Int) = some v := by
  have e : ixN xs.length (-1 : Int) = some n := by
    unfold ixN
    rw [if_neg (by decide), if_pos (by omega), hl]
    exact congrArg some (by omega)
  unfold atI
  rw [e]
  exact h
theorem cut_last {xs : List V} {n : Nat} (hl : xs.length = n + 1) : cutV xs none (some (-1 : Int)) = xs.take n := by
  have e : HT.sIx xs.length xs.length (some (-1 : Int)) = n := by
    rw [hl]
    unfold HT.sIx
    simp
    omega
  unfold cutV
  rw [e, HT.sIx_none]
  simp
theorem again_at {H : Hp} {a b : Addr} {n : Str} (h : H a = some (.tup [.str "question", .str n, .non, .ref b, .bl false])) (hb : H b = some (.tup [.str "truth"])) : FldAt H (.ref a) (again n) := ⟨a, .non, .ref b, rfl, h, rfl, b, rfl, hb⟩
def spTw : Sp := fun vs H Q _ => ∃ (v : V) (A : List DS) (s : DS) (n : Nat), vs = [v] ∧ FrmAt H v ((A ++ [s]).map DS.s) ∧ StG (A ++ [s]) n ∧ ∀ H', Same H H' → Q (.bl true) H'
def spLaw (K : PySem.W.Frag) : Sp := fun vs H Q _ => ∃ (a : Addr) (ds : List Int), vs = [.ref a] ∧ SqL K H a (zsV ds) ∧ ∀ H', Q (.bl true) H'
section
variable {P : Program} {w : World} {K : PySem.W.Frag} {mg : Str → Option Value} {base : Heap} {cSc cSv aW aP aN aO aA : Addr}
abbrev s_law_twice_told : Stmt := top 42
theorem sc_law_twice_told : FnScope ["_law_form_here", "_law_read", "_law_last", "_law_section", "_law_field_here", "_law_more"] ["_law_form_here"] (defScope s_law_twice_told) := ⟨rfl, rfl, rfl, by decide +kernel, rfl, by decide +kernel, by decide +kernel⟩
theorem ok_twice_told {f : Addr} {fd : FuncData} (T : Txt K mg w cSc cSv aW aP aN aO aA) (F : Fun K "_law_twice_told" "_law_twice_told" s_law_twice_told f fd)
    (G_law_all_read : Has P w K mg base "_law_all_read" 10 ["_law_form_here"] spAllRead) (G_law_with : Has P w K mg base "_law_with" 1 ["_law_form_here", "_law_at", "_law_fields"] spWith) (G_issues : Has P w K mg base "issues" 15 ["form"] (spIssues 5)) :
    FnOk P w K mg base CX0 16 f fd ["_law_form_here"] spTw := by
  refine F.ok sc_law_twice_told (fun vs H Q E h => ?_) (fun cdv A outer s H vs Q E hr h => ?_)
  · obtain ⟨v, A, s, n, rfl, _⟩ := h
    rfl
  obtain ⟨v, DA, sec, n, rfl, hF, st, k⟩ := h
  obtain ⟨fa, fvs0, rfl, hfa, al0⟩ := id hF
  refine ⟨_, (pss_cons (ps_set (i := 1) sc_law_twice_told.nd rfl (Or.inl rfl) (pe_callH G_law_all_read (hr.mono (by omega)) (by rfl) (pa_cons (pv 0) pa_nil)))
      (pss_cons (ps_set (i := 2) sc_law_twice_told.nd rfl (Or.inl rfl) (pe_ix (r := rIxT K) ix_tup (pv 0) (pe_un un_neg pe_int) (fun _ _ => rfl)))
      (pss_cons (ps_for PassesOwn.never rfl (pi_tup (pv 0)) (pg_name (i := 3) sc_law_twice_told.nd rfl (Or.inl rfl) (hf := Or.inl rfl))
        (pss_one (ps_for PassesOwn.never rfl (pi_tup (pe_ix (r := rIxT K) ix_tup (pv 3) pe_int (fun _ _ => rfl))) (pg_name (i := 4) sc_law_twice_told.nd rfl (Or.inl rfl) (hf := Or.inl rfl))
          (pss_one (ps_if (pt_cmpR (r := rIn K true) op_notIn_seq (pe_ix (r := rIxT K) ix_tup (pv 4) pe_int (fun _ _ => rfl)) (pv 1) (by rfl))
            (pss_cons (ps_set (i := 5) sc_law_twice_told.nd rfl (Or.inl rfl) (pe_tupN (pa_cons pe_str (pa_cons (pe_ix (r := rIxT K) ix_tup (pv 4) pe_int (fun _ _ => rfl)) (pa_cons pe_non (pa_cons (pe_tupN (pa_cons pe_str pa_nil)) (pa_cons pe_bl pa_nil)))))))
            (pss_one (ps_if (pt_cmpR (op_neD hr.units) (pe_callH G_issues (hr.mono (by omega)) (by rfl) (pa_cons (pe_callH G_law_with (hr.mono (by omega)) (by rfl) (pa_cons (pv 0) (pa_cons (pe_op op_sub (pe_callB call_len_seq (by rfl) T.len (by decide +kernel) (pa_cons (pv 0) pa_nil)) pe_int) (pa_cons (pe_op op_catAN (pe_ix (r := rIxT K) ix_tup (pv 2) pe_int (fun _ _ => rfl)) (pe_tupN (pa_cons (pv 5) pa_nil))) pa_nil)))) pa_nil)) (pe_lstN (pa_cons (pe_tupN (pa_cons (pe_ix (r := rIxT K) ix_tup (pv 4) pe_int (fun _ _ => rfl)) (pa_cons pe_str pa_nil))) pa_nil)) (nomark _))
              (pss_one (ps_ret pe_bl))
              pss_nil)))
            pss_nil)))))
      (pss_one (ps_ret pe_bl))))), ?_⟩
  have rt := st.right
  have hD : HtD (DA ++ [sec]) := st.ht
  have len0 : fvs0.length = DA.length + 1 := by rw [al0.len]; simp
  have sle := st.le
  have hm : sec ∈ DA ++ [sec] := by simp
  refine ⟨_, rfl, .ref fa, _, rfl, hF, fun s hs => ?_, by rw [List.length_map]; exact sle, fun l zs H1 nl s1 h1 => ?_⟩
  · obtain ⟨d, hd, rfl⟩ := List.mem_map.mp hs
    exact ⟨hD.s hd, by have := (st.fs d hd).2; simpa [DS.s] using this⟩
  obtain ⟨lv, elv, hlv⟩ := al0.getR (i := DA.length) (b := sec.s) (by simp)
  obtain ⟨la, lx, lb, lvs, rfl, hla, lox, hlb, lal⟩ := hlv
  have lal : All2 (FldAt H) lvs (sec.fs.map (·.1)) := lal
  refine ⟨_, rfl, _, rfl, fa, _, _, _, rfl, rfl, sq_tup (s1 _ _ hfa), at_last len0 elv, ?_⟩
  refine ⟨_, rfl, fa, rfl, ⟨_, sq_tup (s1 _ _ hfa)⟩, ?_⟩
  refine for_tup (K := K) (a := fa) (xs := fvs0) (fun i σ H' => ∃ u3 u4 u5, σ = [some (.ref fa), some (.ref l), some (.ref la), u3, u4, u5] ∧ Same H1 H')
    ⟨_, _, _, rfl, Same.refl _⟩ (fun i σ H' _ ⟨_, _, _, _, s'⟩ => sq_tup (s' _ _ (s1 _ _ hfa))) ?_ ?_
  · rintro i x σ H2 hi ⟨u3, u4, u5, rfl, s2⟩
    obtain ⟨sc, hsc, hx⟩ := al0.get hi
    obtain ⟨d, hd, rfl⟩ := List.mem_map.mp (List.mem_of_getElem? hsc)
    obtain ⟨sa, sx, sb, svs, rfl, hsa, sox, hsb, sal⟩ := hx
    have sal : All2 (FldAt H) svs (d.fs.map (·.1)) := sal
    have s02 := s1.trans s2
    refine ⟨_, rfl, sa, _, 3, _, rfl, rfl, sq_tup (s02 _ _ hsa), at3, sb, rfl, ⟨_, sq_tup (s02 _ _ hsb)⟩, ?_⟩
    refine for_tup (K := K) (a := sb) (xs := svs) (fun i σ H' => ∃ u4 u5, σ = [some (.ref fa), some (.ref l), some (.ref la), some (.ref sa), u4, u5] ∧ Same H1 H')
      ⟨_, _, rfl, s2⟩ (fun i σ H' _ ⟨_, _, _, s'⟩ => sq_tup (s' _ _ (s1 _ _ hsb))) ?_ ?_
    · rintro j y σ H3 hj ⟨u4, u5, rfl, s3⟩
      obtain ⟨fl, hfl, hy⟩ := sal.get hj
      obtain ⟨fd', hfd', rfl⟩ := List.mem_map.mp (List.mem_of_getElem? hfl)
      have s03 := s1.trans s3
      obtain ⟨ya, yz, yx, yy, yr, rfl, hya, _, _⟩ := (hy.tm (tm_same s03)).view
      refine ⟨_, rfl, ya, _, 1, _, rfl, rfl, sq_tup hya, at1, _, rfl, l, _, rfl, .inl (SqL.of (s3 _ _ h1)), rfl, flatS _, _, rfl, ite2 (fun c => ?_) (fun c => ?_)⟩
      · refine ⟨_, rfl, ya, _, 1, _, rfl, rfl, sq_tup hya, at1, le_line (by simp), fun a1 H5 na1 s5 h5 => ⟨le_line (by simp), fun a2 H6 na2 s6 h6 => ?_⟩⟩
        have s36 := s5.trans s6
        have s06 := s03.trans s36
        refine ⟨_, rfl, _, rfl, fa, _, rfl, .inr (sq_tup (s06 _ _ hfa)), _, _, rfl, rfl, _, rfl, la, _, 3, _, rfl, rfl, sq_tup (s06 _ _ hla), at3, _, rfl, le_line (by simp), fun a3 H7 na3 s7 h7 => ⟨lb, a3, _, _, rfl, rfl, s7 _ _ (s06 _ _ hlb), h7, le_line ?_, fun a4 H8 s8 h8 => ?_⟩⟩
        · have := (st.fs sec hm).2
          rw [lal.len]
          simp
          omega
        have s68 := s7.trans s8
        have s08 := s06.trans s68
        have al' : All2 (FldAt H8) (lvs ++ [.ref a2]) (sec.fs.map (·.1) ++ [again fd'.1.name]) :=
          (lal.imp fun _ _ z => z.tm (tm_same s08)).app ⟨again_at (s68 _ _ h6) (s68 _ _ (s6 _ _ h5)), trivial⟩
        refine ⟨.ref fa, _, DA.map DS.s, [], sec.s, a4, _, _, ?_, hF.tm (tm_same s08), by simp, by rw [List.length_map]; omega, .inr h8, al', fun v' H9 s9 f9 => ?_⟩
        · rw [List.length_map, len0]
          show [V.ref fa, V.int (((DA.length + 1 : Nat) : Int) - 1), V.ref a4] = _
          rw [show ((DA.length + 1 : Nat) : Int) - 1 = (DA.length : Nat) by omega]
        have nk : fd'.1.name ∈ keysD (DA ++ [sec]) := List.mem_flatMap.mpr ⟨d, hd, List.mem_map.mpr ⟨fd', hfd', rfl⟩⟩
        have ev := twice_told rt nk
        refine ⟨_, v', rfl, f9, fun s hs => ?_, ?_, fun l10 H10 s10 nl10 is10 ilen => ?_⟩
        · rcases List.mem_append.mp hs with hs | hs
          · exact hD.f s (by rw [List.map_append]; exact List.mem_append_left _ hs)
          · cases List.mem_singleton.mp hs
            have z := hD.s hm
            refine ⟨z.1, fun f hf => ?_⟩
            rcases List.mem_append.mp hf with hf | hf
            · exact z.2 f hf
            · cases List.mem_singleton.mp hf
              exact fun e he => (by cases he)
        · have := st.sz
          rw [szD_app, szD_cons] at this
          rw [sizeF_app, szD_eq]
          have e : sizeF [(⟨sec.s.name, sec.s.cond, sec.s.most, sec.fs.map (·.1) ++ [again fd'.1.name]⟩ : Sct)] = sec.fs.length + 2 := by simp [sizeF]
          rw [e]
          omega
        have ev : issuesM (DA.map DS.s ++ [(⟨sec.s.name, sec.s.cond, sec.s.most, sec.fs.map (·.1) ++ [again fd'.1.name]⟩ : Sct)]) = [(fd'.1.name, Is.twice)] := ev
        rw [ev] at is10
        have s8_10 := s9.trans s10
        have s3_10 := (s36.trans s68).trans s8_10
        refine ⟨_, rfl, ya, _, 1, _, rfl, rfl, sq_tup (s3_10 _ _ hya), at1, le_line (by simp), fun a11 H11 na11 s11 h11 => ⟨le_line (by simp), fun a12 H12 na12 s12 h12 => ?_⟩⟩
        obtain ⟨ivs, hl10, ial⟩ := is10
        have s10_12 := s11.trans s12
        have is12 : IsAt H12 l10 [(fd'.1.name, Is.twice)] := ⟨ivs, s10_12 _ _ hl10, ial.imp fun _ _ z => z.tm (tm_same s10_12)⟩
        have nok : PyData.strOk fd'.1.name = true := names_ok _ (st.mem ((keys_sub _).subset nk))
        have sh : SeqAt.shaped (isDs [(fd'.1.name, Is.twice)]) = true := isds_shaped fun p hp => by cases List.mem_singleton.mp hp; exact nok
        refine ⟨_, isDs [(fd'.1.name, Is.twice)], is12.dp, .lst (SqL.of h12) (.cons (.tup (sq_tup (s12 _ _ h11)) (.cons (.str _) (.cons (.str _) .nil))) .nil), sh, sh, _, rfl, it_n ?_ ?_⟩
        · rw [show PyData.eqv (isDs [(fd'.1.name, Is.twice)]) (isDs [(fd'.1.name, Is.twice)]) = true from one_eqv _]
          rfl
        · exact ⟨_, _, rfl, (s3.trans s3_10).trans s10_12⟩
      · exact ⟨_, _, rfl, s3⟩
    · rintro σ H3 ⟨u4, u5, rfl, s3⟩
      exact ⟨_, _, _, rfl, s3⟩
  · rintro σ H2 ⟨u3, u4, u5, rfl, s2⟩
    exact k H2 (s1.trans s2)
abbrev s_law : Stmt := top 43
theorem sc_law : FnScope ["_law_script", "_law_box", "_law_turn", "_law_form_here", "_law_at"] ["_law_script"] (defScope s_law) := ⟨rfl, rfl, rfl, by decide +kernel, rfl, by decide +kernel, by decide +kernel⟩
theorem ok_law {f : Addr} {fd : FuncData} (T : Txt K mg w cSc cSv aW aP aN aO aA) (F : Fun K "law" "law" s_law f fd)
    (G_law_digits : Has P w K mg base "_law_digits" 2 ["_law_script", "_law_first", "_law_last"] (spDigits K)) (G_law_form : Has P w K mg base "_law_form" 14 ["_law_box"] spForm)
    (G_law_sections_exchanged : Has P w K mg base "_law_sections_exchanged" 16 ["_law_form_here"] spSEx) (G_law_twice_told : Has P w K mg base "_law_twice_told" 16 ["_law_form_here"] spTw)
    (G_law_fields_exchanged : Has P w K mg base "_law_fields_exchanged" 16 ["_law_form_here", "_law_at"] spFEx)
    (G_law_with : Has P w K mg base "_law_with" 1 ["_law_form_here", "_law_at", "_law_fields"] spWith) (G_issues : Has P w K mg base "issues" 15 ["form"] (spIssues 5)) :
    FnOk P w K mg base CX0 17 f fd ["_law_script"] (spLaw K) := by
  refine F.ok sc_law (fun vs H Q E h => ?_) (fun cdv A outer s H vs Q E hr h => ?_)
  · obtain ⟨a, ds, rfl, _⟩ := h
    rfl
  obtain ⟨a, ds, rfl, ha, k⟩ := h
  refine ⟨_, (pss_cons (ps_set (i := 1) sc_law.nd rfl (Or.inl rfl) (pe_lstN (pa_cons (pe_callH G_law_digits (hr.mono (by omega)) (by rfl) (pa_cons (pv 0) (pa_cons pe_int (pa_cons pe_int pa_nil)))) (pa_cons pe_int pa_nil))))
      (pss_cons (ps_for PassesOwn.never rfl (pi_range1 (by rfl) T.range (pa_cons pe_int pa_nil)) (pg_name (i := 2) sc_law.nd rfl (Or.inl rfl) (hf := Or.inl rfl))
        (pss_cons (ps_set (i := 3) sc_law.nd rfl (Or.inl rfl) (pe_callH G_law_form (hr.mono (by omega)) (by rfl) (pa_cons (pv 1) pa_nil)))
        (pss_cons (ps_if (PW.pt (pw_or (pt_cmpR (op_neD hr.units) (pe_callH G_issues (hr.mono (by omega)) (by rfl) (pa_cons (pv 3) pa_nil)) (pe_lstN pa_nil) (nomark _)) (pw_or (pt_not (pt_val (pe_callH G_law_sections_exchanged (hr.mono (by omega)) (by rfl) (pa_cons (pv 3) pa_nil)))) (pw_or1 (pt_not (pt_val (pe_callH G_law_twice_told (hr.mono (by omega)) (by rfl) (pa_cons (pv 3) pa_nil))))))))
          (pss_one (ps_ret pe_bl))
          pss_nil)
        (pss_cons (ps_for PassesOwn.never rfl (pi_range1 (by rfl) T.range (pa_cons (pe_callB call_len_seq (by rfl) T.len (by decide +kernel) (pa_cons (pv 3) pa_nil)) pa_nil)) (pg_name (i := 4) sc_law.nd rfl (Or.inl rfl) (hf := Or.inl rfl))
          (pss_one (ps_if (pt_not (pt_val (pe_callH G_law_fields_exchanged (hr.mono (by omega)) (by rfl) (pa_cons (pv 3) (pa_cons (pv 4) pa_nil)))))
            (pss_one (ps_ret pe_bl))
            pss_nil)))
        (pss_cons (ps_if (PW.pt (pw_and (pt_cmpR op_gt (pe_callB call_len_seq (by rfl) T.len (by decide +kernel) (pa_cons (pv 3) pa_nil)) pe_int (nomark _)) (pw_and1 (pt_cmpR (op_neD hr.units) (pe_callH G_issues (hr.mono (by omega)) (by rfl) (pa_cons (pe_slice sl_tupN (pv 3) po_none (po_some (pe_un un_neg pe_int))) pa_nil)) (pe_lstN pa_nil) (nomark _)))))
          (pss_one (ps_ret pe_bl))
          pss_nil)
        (pss_one (ps_if (PW.pt (pw_and (pt_cmpR op_gt (pe_callB call_len_seq (by rfl) T.len (by decide +kernel) (pa_cons (pe_ix (r := rIxT K) ix_tup (pe_ix (r := rIxT K) ix_tup (pv 3) (pe_un un_neg pe_int) (fun _ _ => rfl)) pe_int (fun _ _ => rfl)) pa_nil)) pe_int (nomark _)) (pw_and1 (pt_cmpR (op_neD hr.units) (pe_callH G_issues (hr.mono (by omega)) (by rfl) (pa_cons (pe_callH G_law_with (hr.mono (by omega)) (by rfl) (pa_cons (pv 3) (pa_cons (pe_op op_sub (pe_callB call_len_seq (by rfl) T.len (by decide +kernel) (pa_cons (pv 3) pa_nil)) pe_int) (pa_cons (pe_slice sl_tupN (pe_ix (r := rIxT K) ix_tup (pe_ix (r := rIxT K) ix_tup (pv 3) (pe_un un_neg pe_int) (fun _ _ => rfl)) pe_int (fun _ _ => rfl)) po_none (po_some (pe_un un_neg pe_int))) pa_nil)))) pa_nil)) (pe_lstN pa_nil) (nomark _)))))
          (pss_one (ps_ret pe_bl))
          pss_nil)))))))
      (pss_one (ps_ret pe_bl)))), ?_⟩
  refine ⟨_, rfl, a, ds, rfl, ha, fun q zs H1 nq s1 h1 nz => ⟨le_line (by simp), fun p H2 np s2 h2 => ?_⟩⟩
  have bx2 : BxAt H2 p := ⟨q, zs, 0, h2, s2 _ _ h1, nz⟩
  refine ⟨2, rfl, by decide, by decide, ?_⟩
  refine for_range (fun i σ H' => ∃ u2 u3 u4, σ = [some (.ref a), some (.ref p), u2, u3, u4] ∧ Gn p H2 H')
    ⟨_, _, _, rfl, But.of_same (Same.refl _), bx2⟩ ?_ ?_
  · rintro i σ H3 hi ⟨u2, u3, u4, rfl, g3⟩
    refine ⟨_, rfl, p, rfl, g3.2, fun DD n v H4 st nd g34 f4 => ?_⟩
    have g4 : Gn p H2 H4 := g3.b g34.1 g34.2
    obtain ⟨DA, sec, rfl⟩ : ∃ A s, DD = A ++ [s] := ⟨DD.dropLast, DD.getLast nd, (List.dropLast_concat_getLast nd).symm⟩
    have rt := st.right
    have hD : HtD (DA ++ [sec]) := st.ht
    have sle := st.le
    have hsz : sizeF ((DA ++ [sec]).map DS.s) ≤ 50 := by rw [szD_eq]; have := st.sz; omega
    obtain ⟨fa, fvs0, rfl, hfa, al0⟩ := id f4
    have len0 : fvs0.length = DA.length + 1 := by rw [al0.len]; simp
    have len1 : (DA ++ [sec]).length = DA.length + 1 := by simp
    refine ⟨_, rfl, _, _, rfl, f4, hD.f, hsz, fun l5 H5 s5 nl5 is5 ilen => ⟨Nat.zero_le _, fun a6 H6 n6 s6 h6 => ?_⟩⟩
    rw [right_told rt] at is5
    obtain ⟨ivs, hl5, ial⟩ := is5
    have is6 : IsAt H6 l5 [] := ⟨ivs, s6 _ _ hl5, ial.imp fun _ _ z => z.tm (tm_same s6)⟩
    refine ⟨_, _, is6.dp, .lst (SqL.of h6) .nil, nil_shaped, nil_shaped, _, rfl, it_n (by rw [isds_eqv]; rfl) ?_⟩
    have s46 := s5.trans s6
    refine ⟨_, rfl, _, _, n, rfl, f4.tm (tm_same s46), st, fun H7 s7 => ⟨_, rfl, it_n rfl ?_⟩⟩
    have s47 := s46.trans s7
    refine ⟨_, rfl, _, DA, sec, n, rfl, f4.tm (tm_same s47), st, fun H8 s8 => ⟨_, rfl, it_n rfl ?_⟩⟩
    have s48 := s47.trans s8
    refine ⟨_, rfl, fa, _, rfl, .inr (sq_tup (s48 _ _ hfa)), _, rfl, by omega, by omega, ?_⟩
    refine for_range (fun j σ H' => ∃ u4, σ = [some (.ref a), some (.ref p), some (.int (0 + (i : Nat))), some (.ref fa), u4] ∧ Same H4 H')
      ⟨_, rfl, s48⟩ ?_ ?_
    · rintro j σ H9 hj ⟨u4, rfl, s49⟩
      have hj : j < (DA ++ [sec]).length := by omega
      have ej : DA ++ [sec] = (DA ++ [sec]).take j ++ (DA ++ [sec])[j] :: (DA ++ [sec]).drop (j + 1) := by
        conv => lhs; rw [← List.take_append_drop j (DA ++ [sec])]
        rw [List.drop_eq_getElem_cons hj]
      have tl : ((DA ++ [sec]).take j).length = j := by rw [List.length_take]; omega
      have f9 := f4.tm (tm_same s49)
      have st9 := st
      rw [ej] at f9 st9
      refine ⟨_, rfl, _, rfl, _, (DA ++ [sec]).take j, _, _, n, ?_, f9, st9, fun H10 s10 => ⟨_, rfl, it_n rfl ⟨_, rfl, s49.trans s10⟩⟩⟩
      rw [tl]
      show [V.ref fa, V.int (0 + (j : Int))] = _
      rw [Int.zero_add]
    · rintro σ H7 ⟨u4, rfl, s47⟩
      have f7 := f4.tm (tm_same s47)
      have hfa7 := s47 _ _ hfa
      have al7 : All2 (SctAt H7) fvs0 ((DA ++ [sec]).map DS.s) := al0.imp fun _ _ z => z.tm (tm_same s47)
      refine ⟨_, rfl, fa, _, rfl, .inr (sq_tup hfa7), _, _, rfl, rfl, _, rfl, ite2 (fun c => ?_) (fun c => it_n rfl ?_)⟩
      · refine ⟨_, rfl, _, rfl, _, rfl, fa, _, rfl, hfa7, fun a8 H8 s8 h8 => ?_⟩
        have e8 : cutV fvs0 none (some (-(1 : Int))) = fvs0.take DA.length := cut_last len0
        rw [e8] at h8
        have al8 : All2 (SctAt H8) (fvs0.take DA.length) (DA.map DS.s) := by
          have z := (al7.take DA.length).imp fun _ _ z => z.tm (tm_same s8)
          have e : ((DA ++ [sec]).map DS.s).take DA.length = DA.map DS.s := by rw [List.map_append, ← List.length_map (f := DS.s), List.take_left']; rfl
          rw [e] at z
          exact z
        have hD3 : HtD DA := fun d hd => hD d (List.mem_append_left _ hd)
        have hsz3 : sizeF (DA.map DS.s) ≤ 50 := by
          have := st.sz
          rw [szD_app] at this
          rw [szD_eq]
          omega
        refine ⟨_, _, rfl, ⟨a8, _, rfl, h8, al8⟩, hD3.f, hsz3, fun l9 H9 s9 nl9 is9 ilen9 => ⟨Nat.zero_le _, fun a10 H10 n10 s10 h10 => ?_⟩⟩
        rw [right_told (less_secs rt)] at is9
        obtain ⟨ivs9, hl9, ial9⟩ := is9
        have is10 : IsAt H10 l9 [] := ⟨ivs9, s10 _ _ hl9, ial9.imp fun _ _ z => z.tm (tm_same s10)⟩
        refine ⟨_, _, is10.dp, .lst (SqL.of h10) .nil, nil_shaped, nil_shaped, _, rfl, it_n (by rw [isds_eqv]; rfl) ?_⟩
        have s78 := (s8.trans s9).trans s10
        have f8 := f7.tm (tm_same s78)
        have hfa8 := s78 _ _ hfa7
        have al8 : All2 (SctAt H10) fvs0 ((DA ++ [sec]).map DS.s) := al7.imp fun _ _ z => z.tm (tm_same s78)
        obtain ⟨lv, elv, hlv⟩ := al8.getR (i := DA.length) (b := sec.s) (by simp)
        obtain ⟨la, lx, lb, lvs, rfl, hla, lox, hlb, lal⟩ := hlv
        have lal : All2 (FldAt H10) lvs (sec.fs.map (·.1)) := lal
        have llen : lvs.length = sec.fs.length := by rw [lal.len, List.length_map]
        refine ⟨_, rfl, _, rfl, fa, _, _, _, rfl, rfl, sq_tup hfa8, at_last len0 elv, la, _, 3, _, rfl, rfl, sq_tup hla, at3, lb, _, rfl, .inr (sq_tup hlb), _, _, rfl, rfl, _, rfl, ite2 (fun c => ?_) (fun c => it_n rfl ⟨_, _, _, rfl, g4.s (s47.trans s78)⟩)⟩
        have c : 1 < sec.fs.length := by
          have := of_decide_eq_true c
          omega
        refine ⟨_, rfl, _, rfl, fa, _, rfl, .inr (sq_tup hfa8), _, _, rfl, rfl, ?_⟩
        refine ⟨_, rfl, _, rfl, fa, _, _, _, rfl, rfl, sq_tup hfa8, at_last len0 elv, la, _, 3, _, rfl, rfl, sq_tup hla, at3, _, rfl, _, rfl, lb, _, rfl, hlb, fun a9 G9 s9 h9 => ?_⟩
        obtain ⟨P', u, ePu⟩ : ∃ (P' : List DF) (u : DF), sec.fs = P' ++ [u] := by
          have ne : sec.fs ≠ [] := fun e => by rw [e] at c; exact absurd c (by decide)
          exact ⟨sec.fs.dropLast, sec.fs.getLast ne, (List.dropLast_concat_getLast ne).symm⟩
        have lP : lvs.length = P'.length + 1 := by rw [llen, ePu]; simp
        have e9 : cutV lvs none (some (-(1 : Int))) = lvs.take P'.length := cut_last lP
        rw [e9] at h9
        have al9 : All2 (FldAt G9) (lvs.take P'.length) (P'.map (·.1)) := by
          have z := (lal.take P'.length).imp fun _ _ z => z.tm (tm_same s9)
          have e : (sec.fs.map (·.1)).take P'.length = P'.map (·.1) := by rw [ePu, List.map_append, ← List.length_map (f := (·.1)), List.take_left']; rfl
          rw [e] at z
          exact z
        refine ⟨.ref fa, _, DA.map DS.s, [], sec.s, a9, _, _, ?_, f8.tm (tm_same s9), by simp, by rw [List.length_map]; omega, .inr h9, al9, fun v' G10 s10 f10 => ?_⟩
        · rw [List.length_map, len0]
          show [V.ref fa, V.int (((DA.length + 1 : Nat) : Int) - 1), V.ref a9] = _
          rw [show ((DA.length + 1 : Nat) : Int) - 1 = (DA.length : Nat) by omega]
        have rt2 := less_flds rt ePu
        have eF : (DA.map DS.s ++ [(⟨sec.s.name, sec.s.cond, sec.s.most, P'.map (·.1)⟩ : Sct)]) = (DA ++ [sec.mk' P']).map DS.s := (List.map_append (f := DS.s) (l₁ := DA) (l₂ := [sec.mk' P'])).symm
        have f10 : FrmAt G10 v' (DA.map DS.s ++ [(⟨sec.s.name, sec.s.cond, sec.s.most, P'.map (·.1)⟩ : Sct)]) := f10
        rw [eF] at f10
        have hD2 : HtD (DA ++ [sec.mk' P']) := fun d hd => by
          rcases List.mem_append.mp hd with hd | hd
          · exact hD d (List.mem_append_left _ hd)
          · cases List.mem_singleton.mp hd
            obtain ⟨z1, z2⟩ := hD sec (by simp)
            exact ⟨z1, fun d hd => z2 d (by rw [ePu]; exact List.mem_append_left _ hd)⟩
        have hsz2 : sizeF ((DA ++ [sec.mk' P']).map DS.s) ≤ 50 := by
          have := st.sz
          rw [szD_app, szD_cons, ePu] at this
          rw [szD_eq, szD_app, szD_cons]
          show szD DA + (P'.length + 1 + szD []) ≤ 50
          rw [List.length_append] at this
          omega
        refine ⟨_, v', rfl, f10, hD2.f, hsz2, fun l11 G11 s11 nl11 is11 ilen => ⟨Nat.zero_le _, fun a12 G12 n12 s12 h12 => ?_⟩⟩
        rw [right_told rt2] at is11
        obtain ⟨ivs, hl11, ial⟩ := is11
        have is12 : IsAt G12 l11 [] := ⟨ivs, s12 _ _ hl11, ial.imp fun _ _ z => z.tm (tm_same s12)⟩
        refine ⟨_, _, is12.dp, .lst (SqL.of h12) .nil, nil_shaped, nil_shaped, _, rfl, it_n (by rw [isds_eqv]; rfl) ?_⟩
        exact ⟨_, _, _, rfl, g4.s ((s47.trans s78).trans (((s9.trans s10).trans s11).trans s12))⟩
      · have s78 := Same.refl H7
        have f8 := f7.tm (tm_same s78)
        have hfa8 := s78 _ _ hfa7
        have al8 : All2 (SctAt H7) fvs0 ((DA ++ [sec]).map DS.s) := al7.imp fun _ _ z => z.tm (tm_same s78)
        obtain ⟨lv, elv, hlv⟩ := al8.getR (i := DA.length) (b := sec.s) (by simp)
        obtain ⟨la, lx, lb, lvs, rfl, hla, lox, hlb, lal⟩ := hlv
        have lal : All2 (FldAt H7) lvs (sec.fs.map (·.1)) := lal
        have llen : lvs.length = sec.fs.length := by rw [lal.len, List.length_map]
        refine ⟨_, rfl, _, rfl, fa, _, _, _, rfl, rfl, sq_tup hfa8, at_last len0 elv, la, _, 3, _, rfl, rfl, sq_tup hla, at3, lb, _, rfl, .inr (sq_tup hlb), _, _, rfl, rfl, _, rfl, ite2 (fun c => ?_) (fun c => it_n rfl ⟨_, _, _, rfl, g4.s (s47.trans s78)⟩)⟩
        have c : 1 < sec.fs.length := by
          have := of_decide_eq_true c
          omega
        refine ⟨_, rfl, _, rfl, fa, _, rfl, .inr (sq_tup hfa8), _, _, rfl, rfl, ?_⟩
        refine ⟨_, rfl, _, rfl, fa, _, _, _, rfl, rfl, sq_tup hfa8, at_last len0 elv, la, _, 3, _, rfl, rfl, sq_tup hla, at3, _, rfl, _, rfl, lb, _, rfl, hlb, fun a9 G9 s9 h9 => ?_⟩
        obtain ⟨P', u, ePu⟩ : ∃ (P' : List DF) (u : DF), sec.fs = P' ++ [u] := by
          have ne : sec.fs ≠ [] := fun e => by rw [e] at c; exact absurd c (by decide)
          exact ⟨sec.fs.dropLast, sec.fs.getLast ne, (List.dropLast_concat_getLast ne).symm⟩
        have lP : lvs.length = P'.length + 1 := by rw [llen, ePu]; simp
        have e9 : cutV lvs none (some (-(1 : Int))) = lvs.take P'.length := cut_last lP
        rw [e9] at h9
        have al9 : All2 (FldAt G9) (lvs.take P'.length) (P'.map (·.1)) := by
          have z := (lal.take P'.length).imp fun _ _ z => z.tm (tm_same s9)
          have e : (sec.fs.map (·.1)).take P'.length = P'.map (·.1) := by rw [ePu, List.map_append, ← List.length_map (f := (·.1)), List.take_left']; rfl
          rw [e] at z
          exact z
        refine ⟨.ref fa, _, DA.map DS.s, [], sec.s, a9, _, _, ?_, f8.tm (tm_same s9), by simp, by rw [List.length_map]; omega, .inr h9, al9, fun v' G10 s10 f10 => ?_⟩
        · rw [List.length_map, len0]
          show [V.ref fa, V.int (((DA.length + 1 : Nat) : Int) - 1), V.ref a9] = _
          rw [show ((DA.length + 1 : Nat) : Int) - 1 = (DA.length : Nat) by omega]
        have rt2 := less_flds rt ePu
        have eF : (DA.map DS.s ++ [(⟨sec.s.name, sec.s.cond, sec.s.most, P'.map (·.1)⟩ : Sct)]) = (DA ++ [sec.mk' P']).map DS.s := (List.map_append (f := DS.s) (l₁ := DA) (l₂ := [sec.mk' P'])).symm
        have f10 : FrmAt G10 v' (DA.map DS.s ++ [(⟨sec.s.name, sec.s.cond, sec.s.most, P'.map (·.1)⟩ : Sct)]) := f10
        rw [eF] at f10
        have hD2 : HtD (DA ++ [sec.mk' P']) := fun d hd => by
          rcases List.mem_append.mp hd with hd | hd
          · exact hD d (List.mem_append_left _ hd)
          · cases List.mem_singleton.mp hd
            obtain ⟨z1, z2⟩ := hD sec (by simp)
            exact ⟨z1, fun d hd => z2 d (by rw [ePu]; exact List.mem_append_left _ hd)⟩
        have hsz2 : sizeF ((DA ++ [sec.mk' P']).map DS.s) ≤ 50 := by
          have := st.sz
          rw [szD_app, szD_cons, ePu] at this
          rw [szD_eq, szD_app, szD_cons]
          show szD DA + (P'.length + 1 + szD []) ≤ 50
          rw [List.length_append] at this
          omega
        refine ⟨_, v', rfl, f10, hD2.f, hsz2, fun l11 G11 s11 nl11 is11 ilen => ⟨Nat.zero_le _, fun a12 G12 n12 s12 h12 => ?_⟩⟩
        rw [right_told rt2] at is11
        obtain ⟨ivs, hl11, ial⟩ := is11
        have is12 : IsAt G12 l11 [] := ⟨ivs, s12 _ _ hl11, ial.imp fun _ _ z => z.tm (tm_same s12)⟩
        refine ⟨_, _, is12.dp, .lst (SqL.of h12) .nil, nil_shaped, nil_shaped, _, rfl, it_n (by rw [isds_eqv]; rfl) ?_⟩
        exact ⟨_, _, _, rfl, g4.s ((s47.trans s78).trans (((s9.trans s10).trans s11).trans s12))⟩
  · rintro σ H3 ⟨u2, u3, u4, rfl, g3⟩
    exact k H3
end
end FF
/-! What the top has written, and the law's own head. -/
namespace FF
open PySem L2
theorem all_mk {l : PySem.W.OpenLaw} {w : World} {K : PySem.W.Frag} {h : Heap} {mg : Str → Option Value} {fa cSc cSv aW aP aN aO aA f1 f2 f3 f4 f5 f6 f7 f8 f9 f10 f11 f12 f13 f14 f15 f16 f17 f18 f19 f20 f21 f22 f23 f24 f25 f26 f27 f28 f29 f30 f31 f32 f33 f34 f35 f36 f37 f38 f39 f40 : Addr} (X : K.In h) (G : h.Ns mainGlobals mg) (hfa : mg "law" = some (.ref fa))
    {od1 an1 od2 an2 od3 an3 od4 an4 od5 an5 od6 an6 od7 an7 od8 an8 od9 an9 od10 an10 od11 an11 od12 an12 od13 an13 od14 an14 od15 an15 od16 an16 od17 an17 od18 an18 od19 an19 od20 an20 od21 an21 od22 an22 od23 an23 od24 an24 od25 an25 od26 an26 od27 an27 od28 an28 od29 an29 od30 an30 od31 an31 od32 an32 od33 an33 od34 an34 od35 an35 od36 an36 od37 an37 od38 an38 od39 an39 od40 an40 : Option Addr}
    {sl1 sl2 sl3 sl4 sl5 sl6 sl7 sl8 sl9 sl10 sl11 sl12 sl13 sl14 sl15 sl16 sl17 sl18 sl19 sl20 sl21 sl22 sl23 sl24 sl25 sl26 sl27 sl28 sl29 sl30 sl31 sl32 sl33 sl34 sl35 sl36 sl37 sl38 sl39 sl40 : Array (Option Value)}
    {oc1 kV1 dc1 pm1 cd1 ct1 oc2 kV2 dc2 pm2 cd2 ct2 oc3 kV3 dc3 pm3 cd3 ct3 oc4 kV4 dc4 pm4 cd4 ct4 oc5 kV5 dc5 pm5 cd5 ct5 oc6 kV6 dc6 pm6 cd6 ct6 oc7 kV7 dc7 pm7 cd7 ct7 oc8 kV8 dc8 pm8 cd8 ct8 oc9 kV9 dc9 pm9 cd9 ct9 oc10 kV10 dc10 pm10 cd10 ct10 oc11 kV11 dc11 pm11 cd11 ct11 oc12 kV12 dc12 pm12 cd12 ct12 oc13 kV13 dc13 pm13 cd13 ct13 oc14 kV14 dc14 pm14 cd14 ct14 oc15 kV15 dc15 pm15 cd15 ct15 oc16 kV16 dc16 pm16 cd16 ct16 oc17 kV17 dc17 pm17 cd17 ct17 oc18 kV18 dc18 pm18 cd18 ct18 oc19 kV19 dc19 pm19 cd19 ct19 oc20 kV20 dc20 pm20 cd20 ct20 oc21 kV21 dc21 pm21 cd21 ct21 oc22 kV22 dc22 pm22 cd22 ct22 oc23 kV23 dc23 pm23 cd23 ct23 oc24 kV24 dc24 pm24 cd24 ct24 oc25 kV25 dc25 pm25 cd25 ct25 oc26 kV26 dc26 pm26 cd26 ct26 oc27 kV27 dc27 pm27 cd27 ct27 oc28 kV28 dc28 pm28 cd28 ct28 oc29 kV29 dc29 pm29 cd29 ct29 oc30 kV30 dc30 pm30 cd30 ct30 oc31 kV31 dc31 pm31 cd31 ct31 oc32 kV32 dc32 pm32 cd32 ct32 oc33 kV33 dc33 pm33 cd33 ct33 oc34 kV34 dc34 pm34 cd34 ct34 oc35 kV35 dc35 pm35 cd35 ct35 oc36 kV36 dc36 pm36 cd36 ct36 oc37 kV37 dc37 pm37 cd37 ct37 oc38 kV38 dc38 pm38 cd38 ct38 oc39 kV39 dc39 pm39 cd39 ct39 oc40 kV40 dc40 pm40 cd40 ct40 : Value}
    {tB tk1 tk2 tk3 tk4 tk5 tW1 tW2 tP1 tP2 tP3 tN1 tN2 tN3 tO1 tO2 tO3 tO4 : Tok} {esA : Array DictEntry} {nA nW nP nN nO : Nat} {odW odP odN odO : Option Addr} {itW itP itN itO : Array Value} {slW slP slN slO : Array (Option Value)}
    (aSc : PySem.W.nsIn K mainGlobals "Scope" = some (some (.ref cSc))) (pgSc : PySem.W.plainGet K cSc Str.empty = true) (hdSc : PySem.W.hasDictIn K cSc = true) (poSc : PySem.W.plainOver K cSc = true) (saSc : PySem.W.findIn K (.ref cSc) "__setattr__" = some (some (.builtin "object.__setattr__"))) (mkSc : PySem.W.makesIn K cSc = true) (kcSc : PySem.W.keepIn K (.ref cSc) = true)
    (aSv : PySem.W.nsIn K mainGlobals "Survey" = some (some (.ref cSv))) (pgSv : PySem.W.plainGet K cSv Str.empty = true) (hdSv : PySem.W.hasDictIn K cSv = true) (poSv : PySem.W.plainOver K cSv = true) (saSv : PySem.W.findIn K (.ref cSv) "__setattr__" = some (some (.builtin "object.__setattr__"))) (mkSv : PySem.W.makesIn K cSv = true) (kcSv : PySem.W.keepIn K (.ref cSv) = true)
    (nSc_names : PySem.W.findIn K (.ref cSc) "names" = some none)
    (nSc_over : PySem.W.findIn K (.ref cSc) "over" = some none)
    (nSc_sections : PySem.W.findIn K (.ref cSc) "sections" = some none)
    (nSc_has_row : PySem.W.findIn K (.ref cSc) "has_row" = some none)
    (nSv_names : PySem.W.findIn K (.ref cSv) "names" = some none)
    (nSv_over : PySem.W.findIn K (.ref cSv) "over" = some none)
    (nSv_sections : PySem.W.findIn K (.ref cSv) "sections" = some none)
    (a1 : PySem.W.nsIn K mainGlobals "inner" = some (some (.ref f1)))
    (l1 : K.lookup f1 = some ⟨oc1, od1, .func (PySem.W.fnOf "inner" "inner" (defArgs s_inner) (defBody s_inner) (defScope s_inner) .none kV1 dc1 pm1 an1 cd1 ct1), sl1⟩) (c1 : PySem.W.codeIn K cd1 "inner" = true) (k1 : PySem.W.keepIn K (.ref f1) = true)
    (a2 : PySem.W.nsIn K mainGlobals "gather_names" = some (some (.ref f2)))
    (l2 : K.lookup f2 = some ⟨oc2, od2, .func (PySem.W.fnOf "gather_names" "gather_names" (defArgs s_gather_names) (defBody s_gather_names) (defScope s_gather_names) .none kV2 dc2 pm2 an2 cd2 ct2), sl2⟩) (c2 : PySem.W.codeIn K cd2 "gather_names" = true) (k2 : PySem.W.keepIn K (.ref f2) = true)
    (a3 : PySem.W.nsIn K mainGlobals "names_in" = some (some (.ref f3)))
    (l3 : K.lookup f3 = some ⟨oc3, od3, .func (PySem.W.fnOf "names_in" "names_in" (defArgs s_names_in) (defBody s_names_in) (defScope s_names_in) .none kV3 dc3 pm3 an3 cd3 ct3), sl3⟩) (c3 : PySem.W.codeIn K cd3 "names_in" = true) (k3 : PySem.W.keepIn K (.ref f3) = true)
    (a4 : PySem.W.nsIn K mainGlobals "kind_expressions" = some (some (.ref f4)))
    (l4 : K.lookup f4 = some ⟨oc4, od4, .func (PySem.W.fnOf "kind_expressions" "kind_expressions" (defArgs s_kind_expressions) (defBody s_kind_expressions) (defScope s_kind_expressions) .none kV4 dc4 pm4 an4 cd4 ct4), sl4⟩) (c4 : PySem.W.codeIn K cd4 "kind_expressions" = true) (k4 : PySem.W.keepIn K (.ref f4) = true)
    (a5 : PySem.W.nsIn K mainGlobals "expressions_of" = some (some (.ref f5)))
    (l5 : K.lookup f5 = some ⟨oc5, od5, .func (PySem.W.fnOf "expressions_of" "expressions_of" (defArgs s_expressions_of) (defBody s_expressions_of) (defScope s_expressions_of) .none kV5 dc5 pm5 an5 cd5 ct5), sl5⟩) (c5 : PySem.W.codeIn K cd5 "expressions_of" = true) (k5 : PySem.W.keepIn K (.ref f5) = true)
    (a6 : PySem.W.nsIn K mainGlobals "first_known" = some (some (.ref f6)))
    (l6 : K.lookup f6 = some ⟨oc6, od6, .func (PySem.W.fnOf "first_known" "first_known" (defArgs s_first_known) (defBody s_first_known) (defScope s_first_known) .none kV6 dc6 pm6 an6 cd6 ct6), sl6⟩) (c6 : PySem.W.codeIn K cd6 "first_known" = true) (k6 : PySem.W.keepIn K (.ref f6) = true)
    (a7 : PySem.W.nsIn K mainGlobals "field_kind" = some (some (.ref f7)))
    (l7 : K.lookup f7 = some ⟨oc7, od7, .func (PySem.W.fnOf "field_kind" "field_kind" (defArgs s_field_kind) (defBody s_field_kind) (defScope s_field_kind) .none kV7 dc7 pm7 an7 cd7 ct7), sl7⟩) (c7 : PySem.W.codeIn K cd7 "field_kind" = true) (k7 : PySem.W.keepIn K (.ref f7) = true)
    (a8 : PySem.W.nsIn K mainGlobals "walk" = some (some (.ref f8)))
    (l8 : K.lookup f8 = some ⟨oc8, od8, .func (PySem.W.fnOf "walk" "walk" (defArgs s_walk) (defBody s_walk) (defScope s_walk) .none kV8 dc8 pm8 an8 cd8 ct8), sl8⟩) (c8 : PySem.W.codeIn K cd8 "walk" = true) (k8 : PySem.W.keepIn K (.ref f8) = true)
    (a9 : PySem.W.nsIn K mainGlobals "twice" = some (some (.ref f9)))
    (l9 : K.lookup f9 = some ⟨oc9, od9, .func (PySem.W.fnOf "twice" "twice" (defArgs s_twice) (defBody s_twice) (defScope s_twice) .none kV9 dc9 pm9 an9 cd9 ct9), sl9⟩) (c9 : PySem.W.codeIn K cd9 "twice" = true) (k9 : PySem.W.keepIn K (.ref f9) = true)
    (a10 : PySem.W.nsIn K mainGlobals "is_no" = some (some (.ref f10)))
    (l10 : K.lookup f10 = some ⟨oc10, od10, .func (PySem.W.fnOf "is_no" "is_no" (defArgs s_is_no) (defBody s_is_no) (defScope s_is_no) .none kV10 dc10 pm10 an10 cd10 ct10), sl10⟩) (c10 : PySem.W.codeIn K cd10 "is_no" = true) (k10 : PySem.W.keepIn K (.ref f10) = true)
    (a11 : PySem.W.nsIn K mainGlobals "question_issues" = some (some (.ref f11)))
    (l11 : K.lookup f11 = some ⟨oc11, od11, .func (PySem.W.fnOf "question_issues" "question_issues" (defArgs s_question_issues) (defBody s_question_issues) (defScope s_question_issues) .none kV11 dc11 pm11 an11 cd11 ct11), sl11⟩) (c11 : PySem.W.codeIn K cd11 "question_issues" = true) (k11 : PySem.W.keepIn K (.ref f11) = true)
    (a12 : PySem.W.nsIn K mainGlobals "field_issues" = some (some (.ref f12)))
    (l12 : K.lookup f12 = some ⟨oc12, od12, .func (PySem.W.fnOf "field_issues" "field_issues" (defArgs s_field_issues) (defBody s_field_issues) (defScope s_field_issues) .none kV12 dc12 pm12 an12 cd12 ct12), sl12⟩) (c12 : PySem.W.codeIn K cd12 "field_issues" = true) (k12 : PySem.W.keepIn K (.ref f12) = true)
    (a13 : PySem.W.nsIn K mainGlobals "issues" = some (some (.ref f13)))
    (l13 : K.lookup f13 = some ⟨oc13, od13, .func (PySem.W.fnOf "issues" "issues" (defArgs s_issues) (defBody s_issues) (defScope s_issues) .none kV13 dc13 pm13 an13 cd13 ct13), sl13⟩) (c13 : PySem.W.codeIn K cd13 "issues" = true) (k13 : PySem.W.keepIn K (.ref f13) = true)
    (a14 : PySem.W.nsIn K mainGlobals "_law_cell" = some (some (.ref f14)))
    (l14 : K.lookup f14 = some ⟨oc14, od14, .func (PySem.W.fnOf "_law_cell" "_law_cell" (defArgs s_law_cell) (defBody s_law_cell) (defScope s_law_cell) .none kV14 dc14 pm14 an14 cd14 ct14), sl14⟩) (c14 : PySem.W.codeIn K cd14 "_law_cell" = true) (k14 : PySem.W.keepIn K (.ref f14) = true)
    (a15 : PySem.W.nsIn K mainGlobals "_law_digits" = some (some (.ref f15)))
    (l15 : K.lookup f15 = some ⟨oc15, od15, .func (PySem.W.fnOf "_law_digits" "_law_digits" (defArgs s_law_digits) (defBody s_law_digits) (defScope s_law_digits) .none kV15 dc15 pm15 an15 cd15 ct15), sl15⟩) (c15 : PySem.W.codeIn K cd15 "_law_digits" = true) (k15 : PySem.W.keepIn K (.ref f15) = true)
    (a16 : PySem.W.nsIn K mainGlobals "_law_draw" = some (some (.ref f16)))
    (l16 : K.lookup f16 = some ⟨oc16, od16, .func (PySem.W.fnOf "_law_draw" "_law_draw" (defArgs s_law_draw) (defBody s_law_draw) (defScope s_law_draw) .none kV16 dc16 pm16 an16 cd16 ct16), sl16⟩) (c16 : PySem.W.codeIn K cd16 "_law_draw" = true) (k16 : PySem.W.keepIn K (.ref f16) = true)
    (a17 : PySem.W.nsIn K mainGlobals "_law_pick" = some (some (.ref f17)))
    (l17 : K.lookup f17 = some ⟨oc17, od17, .func (PySem.W.fnOf "_law_pick" "_law_pick" (defArgs s_law_pick) (defBody s_law_pick) (defScope s_law_pick) .none kV17 dc17 pm17 an17 cd17 ct17), sl17⟩) (c17 : PySem.W.codeIn K cd17 "_law_pick" = true) (k17 : PySem.W.keepIn K (.ref f17) = true)
    (a18 : PySem.W.nsIn K mainGlobals "_law_named" = some (some (.ref f18)))
    (l18 : K.lookup f18 = some ⟨oc18, od18, .func (PySem.W.fnOf "_law_named" "_law_named" (defArgs s_law_named) (defBody s_law_named) (defScope s_law_named) .none kV18 dc18 pm18 an18 cd18 ct18), sl18⟩) (c18 : PySem.W.codeIn K cd18 "_law_named" = true) (k18 : PySem.W.keepIn K (.ref f18) = true)
    (a19 : PySem.W.nsIn K mainGlobals "_law_number" = some (some (.ref f19)))
    (l19 : K.lookup f19 = some ⟨oc19, od19, .func (PySem.W.fnOf "_law_number" "_law_number" (defArgs s_law_number) (defBody s_law_number) (defScope s_law_number) .none kV19 dc19 pm19 an19 cd19 ct19), sl19⟩) (c19 : PySem.W.codeIn K cd19 "_law_number" = true) (k19 : PySem.W.keepIn K (.ref f19) = true)
    (a20 : PySem.W.nsIn K mainGlobals "_law_truth" = some (some (.ref f20)))
    (l20 : K.lookup f20 = some ⟨oc20, od20, .func (PySem.W.fnOf "_law_truth" "_law_truth" (defArgs s_law_truth) (defBody s_law_truth) (defScope s_law_truth) .none kV20 dc20 pm20 an20 cd20 ct20), sl20⟩) (c20 : PySem.W.codeIn K cd20 "_law_truth" = true) (k20 : PySem.W.keepIn K (.ref f20) = true)
    (a21 : PySem.W.nsIn K mainGlobals "_law_condition" = some (some (.ref f21)))
    (l21 : K.lookup f21 = some ⟨oc21, od21, .func (PySem.W.fnOf "_law_condition" "_law_condition" (defArgs s_law_condition) (defBody s_law_condition) (defScope s_law_condition) .none kV21 dc21 pm21 an21 cd21 ct21), sl21⟩) (c21 : PySem.W.codeIn K cd21 "_law_condition" = true) (k21 : PySem.W.keepIn K (.ref f21) = true)
    (a22 : PySem.W.nsIn K mainGlobals "_law_question_kind" = some (some (.ref f22)))
    (l22 : K.lookup f22 = some ⟨oc22, od22, .func (PySem.W.fnOf "_law_question_kind" "_law_question_kind" (defArgs s_law_question_kind) (defBody s_law_question_kind) (defScope s_law_question_kind) .none kV22 dc22 pm22 an22 cd22 ct22), sl22⟩) (c22 : PySem.W.codeIn K cd22 "_law_question_kind" = true) (k22 : PySem.W.keepIn K (.ref f22) = true)
    (a23 : PySem.W.nsIn K mainGlobals "_law_field" = some (some (.ref f23)))
    (l23 : K.lookup f23 = some ⟨oc23, od23, .func (PySem.W.fnOf "_law_field" "_law_field" (defArgs s_law_field) (defBody s_law_field) (defScope s_law_field) .none kV23 dc23 pm23 an23 cd23 ct23), sl23⟩) (c23 : PySem.W.codeIn K cd23 "_law_field" = true) (k23 : PySem.W.keepIn K (.ref f23) = true)
    (a24 : PySem.W.nsIn K mainGlobals "_law_form" = some (some (.ref f24)))
    (l24 : K.lookup f24 = some ⟨oc24, od24, .func (PySem.W.fnOf "_law_form" "_law_form" (defArgs s_law_form) (defBody s_law_form) (defScope s_law_form) .none kV24 dc24 pm24 an24 cd24 ct24), sl24⟩) (c24 : PySem.W.codeIn K cd24 "_law_form" = true) (k24 : PySem.W.keepIn K (.ref f24) = true)
    (a25 : PySem.W.nsIn K mainGlobals "_law_names_of" = some (some (.ref f25)))
    (l25 : K.lookup f25 = some ⟨oc25, od25, .func (PySem.W.fnOf "_law_names_of" "_law_names_of" (defArgs s_law_names_of) (defBody s_law_names_of) (defScope s_law_names_of) .none kV25 dc25 pm25 an25 cd25 ct25), sl25⟩) (c25 : PySem.W.codeIn K cd25 "_law_names_of" = true) (k25 : PySem.W.keepIn K (.ref f25) = true)
    (a26 : PySem.W.nsIn K mainGlobals "_law_section_reads" = some (some (.ref f26)))
    (l26 : K.lookup f26 = some ⟨oc26, od26, .func (PySem.W.fnOf "_law_section_reads" "_law_section_reads" (defArgs s_law_section_reads) (defBody s_law_section_reads) (defScope s_law_section_reads) .none kV26 dc26 pm26 an26 cd26 ct26), sl26⟩) (c26 : PySem.W.codeIn K cd26 "_law_section_reads" = true) (k26 : PySem.W.keepIn K (.ref f26) = true)
    (a27 : PySem.W.nsIn K mainGlobals "_law_with" = some (some (.ref f27)))
    (l27 : K.lookup f27 = some ⟨oc27, od27, .func (PySem.W.fnOf "_law_with" "_law_with" (defArgs s_law_with) (defBody s_law_with) (defScope s_law_with) .none kV27 dc27 pm27 an27 cd27 ct27), sl27⟩) (c27 : PySem.W.codeIn K cd27 "_law_with" = true) (k27 : PySem.W.keepIn K (.ref f27) = true)
    (a28 : PySem.W.nsIn K mainGlobals "_law_all_read" = some (some (.ref f28)))
    (l28 : K.lookup f28 = some ⟨oc28, od28, .func (PySem.W.fnOf "_law_all_read" "_law_all_read" (defArgs s_law_all_read) (defBody s_law_all_read) (defScope s_law_all_read) .none kV28 dc28 pm28 an28 cd28 ct28), sl28⟩) (c28 : PySem.W.codeIn K cd28 "_law_all_read" = true) (k28 : PySem.W.keepIn K (.ref f28) = true)
    (a29 : PySem.W.nsIn K mainGlobals "_law_fields_exchanged" = some (some (.ref f29)))
    (l29 : K.lookup f29 = some ⟨oc29, od29, .func (PySem.W.fnOf "_law_fields_exchanged" "_law_fields_exchanged" (defArgs s_law_fields_exchanged) (defBody s_law_fields_exchanged) (defScope s_law_fields_exchanged) .none kV29 dc29 pm29 an29 cd29 ct29), sl29⟩) (c29 : PySem.W.codeIn K cd29 "_law_fields_exchanged" = true) (k29 : PySem.W.keepIn K (.ref f29) = true)
    (a30 : PySem.W.nsIn K mainGlobals "_law_sections_exchanged" = some (some (.ref f30)))
    (l30 : K.lookup f30 = some ⟨oc30, od30, .func (PySem.W.fnOf "_law_sections_exchanged" "_law_sections_exchanged" (defArgs s_law_sections_exchanged) (defBody s_law_sections_exchanged) (defScope s_law_sections_exchanged) .none kV30 dc30 pm30 an30 cd30 ct30), sl30⟩) (c30 : PySem.W.codeIn K cd30 "_law_sections_exchanged" = true) (k30 : PySem.W.keepIn K (.ref f30) = true)
    (a31 : PySem.W.nsIn K mainGlobals "_law_twice_told" = some (some (.ref f31)))
    (l31 : K.lookup f31 = some ⟨oc31, od31, .func (PySem.W.fnOf "_law_twice_told" "_law_twice_told" (defArgs s_law_twice_told) (defBody s_law_twice_told) (defScope s_law_twice_told) .none kV31 dc31 pm31 an31 cd31 ct31), sl31⟩) (c31 : PySem.W.codeIn K cd31 "_law_twice_told" = true) (k31 : PySem.W.keepIn K (.ref f31) = true)
    (a32 : PySem.W.nsIn K mainGlobals "law" = some (some (.ref f32)))
    (l32 : K.lookup f32 = some ⟨oc32, od32, .func (PySem.W.fnOf "law" "law" (defArgs s_law) (defBody s_law) (defScope s_law) .none kV32 dc32 pm32 an32 cd32 ct32), sl32⟩) (c32 : PySem.W.codeIn K cd32 "law" = true) (k32 : PySem.W.keepIn K (.ref f32) = true)
    (a33 : PySem.W.findIn K (.ref cSc) "__init__" = some (some (.ref f33))) (i33 : PySem.W.isFn K (.ref f33) = true)
    (l33 : K.lookup f33 = some ⟨oc33, od33, .func (PySem.W.fnOf "__init__" "Scope.__init__" (defArgs s_Scope___init__) (defBody s_Scope___init__) (defScope s_Scope___init__) .none kV33 dc33 pm33 an33 cd33 ct33), sl33⟩) (c33 : PySem.W.codeIn K cd33 "Scope.__init__" = true) (k33 : PySem.W.keepIn K (.ref f33) = true)
    (a34 : PySem.W.findIn K (.ref cSc) "kind" = some (some (.ref f34))) (i34 : PySem.W.isFn K (.ref f34) = true)
    (l34 : K.lookup f34 = some ⟨oc34, od34, .func (PySem.W.fnOf "kind" "Scope.kind" (defArgs s_Scope_kind) (defBody s_Scope_kind) (defScope s_Scope_kind) .none kV34 dc34 pm34 an34 cd34 ct34), sl34⟩) (c34 : PySem.W.codeIn K cd34 "Scope.kind" = true) (k34 : PySem.W.keepIn K (.ref f34) = true)
    (a35 : PySem.W.findIn K (.ref cSc) "op" = some (some (.ref f35))) (i35 : PySem.W.isFn K (.ref f35) = true)
    (l35 : K.lookup f35 = some ⟨oc35, od35, .func (PySem.W.fnOf "op" "Scope.op" (defArgs s_Scope_op) (defBody s_Scope_op) (defScope s_Scope_op) .none kV35 dc35 pm35 an35 cd35 ct35), sl35⟩) (c35 : PySem.W.codeIn K cd35 "Scope.op" = true) (k35 : PySem.W.keepIn K (.ref f35) = true)
    (a36 : PySem.W.findIn K (.ref cSc) "choice" = some (some (.ref f36))) (i36 : PySem.W.isFn K (.ref f36) = true)
    (l36 : K.lookup f36 = some ⟨oc36, od36, .func (PySem.W.fnOf "choice" "Scope.choice" (defArgs s_Scope_choice) (defBody s_Scope_choice) (defScope s_Scope_choice) .none kV36 dc36 pm36 an36 cd36 ct36), sl36⟩) (c36 : PySem.W.codeIn K cd36 "Scope.choice" = true) (k36 : PySem.W.keepIn K (.ref f36) = true)
    (a37 : PySem.W.findIn K (.ref cSc) "ask" = some (some (.ref f37))) (i37 : PySem.W.isFn K (.ref f37) = true)
    (l37 : K.lookup f37 = some ⟨oc37, od37, .func (PySem.W.fnOf "ask" "Scope.ask" (defArgs s_Scope_ask) (defBody s_Scope_ask) (defScope s_Scope_ask) .none kV37 dc37 pm37 an37 cd37 ct37), sl37⟩) (c37 : PySem.W.codeIn K cd37 "Scope.ask" = true) (k37 : PySem.W.keepIn K (.ref f37) = true)
    (a38 : PySem.W.findIn K (.ref cSv) "__init__" = some (some (.ref f38))) (i38 : PySem.W.isFn K (.ref f38) = true)
    (l38 : K.lookup f38 = some ⟨oc38, od38, .func (PySem.W.fnOf "__init__" "Survey.__init__" (defArgs s_Survey___init__) (defBody s_Survey___init__) (defScope s_Survey___init__) .none kV38 dc38 pm38 an38 cd38 ct38), sl38⟩) (c38 : PySem.W.codeIn K cd38 "Survey.__init__" = true) (k38 : PySem.W.keepIn K (.ref f38) = true)
    (a39 : PySem.W.findIn K (.ref cSv) "scope" = some (some (.ref f39))) (i39 : PySem.W.isFn K (.ref f39) = true)
    (l39 : K.lookup f39 = some ⟨oc39, od39, .func (PySem.W.fnOf "scope" "Survey.scope" (defArgs s_Survey_scope) (defBody s_Survey_scope) (defScope s_Survey_scope) .none kV39 dc39 pm39 an39 cd39 ct39), sl39⟩) (c39 : PySem.W.codeIn K cd39 "Survey.scope" = true) (k39 : PySem.W.keepIn K (.ref f39) = true)
    (a40 : PySem.W.findIn K (.ref cSv) "leave" = some (some (.ref f40))) (i40 : PySem.W.isFn K (.ref f40) = true)
    (l40 : K.lookup f40 = some ⟨oc40, od40, .func (PySem.W.fnOf "leave" "Survey.leave" (defArgs s_Survey_leave) (defBody s_Survey_leave) (defScope s_Survey_leave) .none kV40 dc40 pm40 an40 cd40 ct40), sl40⟩) (c40 : PySem.W.codeIn K cd40 "Survey.leave" = true) (k40 : PySem.W.keepIn K (.ref f40) = true)
    (z_len : PySem.W.nsIn K mainGlobals "len" = some none)
    (z_int : PySem.W.nsIn K mainGlobals "int" = some none)
    (z_str : PySem.W.nsIn K mainGlobals "str" = some none)
    (z_list : PySem.W.nsIn K mainGlobals "list" = some none)
    (z_tuple : PySem.W.nsIn K mainGlobals "tuple" = some none)
    (z_dict : PySem.W.nsIn K mainGlobals "dict" = some none)
    (z_set : PySem.W.nsIn K mainGlobals "set" = some none)
    (z_range : PySem.W.nsIn K mainGlobals "range" = some none)
    (z_enumerate : PySem.W.nsIn K mainGlobals "enumerate" = some none)
    (aB : PySem.W.nsIn K mainGlobals "BOUNDED" = some (some (.str "integer" tB)))
    (mW : PySem.W.nsIn K mainGlobals "WITH_OPTIONS" = some (some (.ref aW))) (lW : K.lookup aW = some ⟨.type "tuple", odW, .seq itW nW, slW⟩) (eW : itW = #[.str "choice" tW1, .str "choices" tW2])
    (mP : PySem.W.nsIn K mainGlobals "PLAIN_KINDS" = some (some (.ref aP))) (lP : K.lookup aP = some ⟨.type "tuple", odP, .seq itP nP, slP⟩) (eP : itP = #[.str "truth" tP1, .str "number" tP2, .str "option" tP3])
    (mN : PySem.W.nsIn K mainGlobals "NUMBER_SIGNS" = some (some (.ref aN))) (lN : K.lookup aN = some ⟨.type "tuple", odN, .seq itN nN, slN⟩) (eN : itN = #[.str "+" tN1, .str "-" tN2, .str "*" tN3])
    (mO : PySem.W.nsIn K mainGlobals "ORDER_SIGNS" = some (some (.ref aO))) (lO : K.lookup aO = some ⟨.type "tuple", odO, .seq itO nO, slO⟩) (eO : itO = #[.str "<" tO1, .str "<=" tO2, .str ">" tO3, .str ">=" tO4])
    (mA : PySem.W.nsIn K mainGlobals "ANSWER_KINDS" = some (some (.ref aA))) (lA : K.lookup aA = some ⟨.type "dict", none, .dict esA nA, #[]⟩) (kA : PySem.W.KeysLit w.params esA.toList)
    (d1 : PySem.W.nsIn K aA "truth" = some (some (.str "truth" tk1)))
    (d2 : PySem.W.nsIn K aA "integer" = some (some (.str "number" tk2)))
    (d3 : PySem.W.nsIn K aA "choice" = some (some (.str "option" tk3)))
    (d4 : PySem.W.nsIn K aA "choices" = some (some (.str "options" tk4)))
    (d5 : PySem.W.nsIn K aA "text" = some (some (.str "text" tk5)))
    : ∃ fd : FuncData, (∀ (s : Shared) (v : Value), BindsTo s fd ⟨[v], []⟩ [("_law_script", v)]) ∧ ∀ base : Heap, K.In base → base.Ns mainGlobals mg → FnOk l.prog w K mg base CX0 17 fa fd ["_law_script"] (spLaw K) := by
  have e := hfa.symm.trans (PySem.W.mg_of X G a32)
  cases e
  have T : Txt K mg w cSc cSv aW aP aN aO aA := {
    len := PySem.W.mg_none_of X G z_len
    int := PySem.W.mg_none_of X G z_int
    str := PySem.W.mg_none_of X G z_str
    list := PySem.W.mg_none_of X G z_list
    tuple := PySem.W.mg_none_of X G z_tuple
    dict := PySem.W.mg_none_of X G z_dict
    set := PySem.W.mg_none_of X G z_set
    range := PySem.W.mg_none_of X G z_range
    enumerate := PySem.W.mg_none_of X G z_enumerate
    bounded := ⟨tB, PySem.W.mg_of X G aB⟩
    mW := PySem.W.mg_of X G mW
    qW := fun H => .inr ⟨_, _, _, lW, rfl, rfl, by rw [eW]; exact le_line (by simp), by rw [eW]; exact .cons ⟨_, rfl⟩ (.cons ⟨_, rfl⟩ (.nil))⟩
    mP := PySem.W.mg_of X G mP
    qP := fun H => .inr ⟨_, _, _, lP, rfl, rfl, by rw [eP]; exact le_line (by simp), by rw [eP]; exact .cons ⟨_, rfl⟩ (.cons ⟨_, rfl⟩ (.cons ⟨_, rfl⟩ (.nil)))⟩
    mN := PySem.W.mg_of X G mN
    qN := fun H => .inr ⟨_, _, _, lN, rfl, rfl, by rw [eN]; exact le_line (by simp), by rw [eN]; exact .cons ⟨_, rfl⟩ (.cons ⟨_, rfl⟩ (.cons ⟨_, rfl⟩ (.nil)))⟩
    mO := PySem.W.mg_of X G mO
    qO := fun H => .inr ⟨_, _, _, lO, rfl, rfl, by rw [eO]; exact le_line (by simp), by rw [eO]; exact .cons ⟨_, rfl⟩ (.cons ⟨_, rfl⟩ (.cons ⟨_, rfl⟩ (.cons ⟨_, rfl⟩ (.nil))))⟩
    mA := PySem.W.mg_of X G mA
    kTruth := ⟨_, _, _, lA, kA, d1, ⟨_, rfl⟩⟩
    kInteger := ⟨_, _, _, lA, kA, d2, ⟨_, rfl⟩⟩
    kChoice := ⟨_, _, _, lA, kA, d3, ⟨_, rfl⟩⟩
    kChoices := ⟨_, _, _, lA, kA, d4, ⟨_, rfl⟩⟩
    kText := ⟨_, _, _, lA, kA, d5, ⟨_, rfl⟩⟩
    cl_Scope := ⟨pgSc, hdSc, poSc, saSc⟩
    n1 := nSc_names
    n2 := nSc_over
    n3 := nSc_sections
    n4 := nSc_has_row
    cl_Survey := ⟨pgSv, hdSv, poSv, saSv⟩
    v1 := nSv_names
    v2 := nSv_over
    v3 := nSv_sections }
  have F1 := fun_mk (st := s_inner) l1 c1 k1
  have b1 := F1.binds (ps := ["expression"]) fun _ _ _ _ _ _ us hl => match us, hl with | [_], _ => rfl
  have F2 := fun_mk (st := s_gather_names) l2 c2 k2
  have b2 := F2.binds (ps := ["expression", "found"]) fun _ _ _ _ _ _ us hl => match us, hl with | [_, _], _ => rfl
  have F3 := fun_mk (st := s_names_in) l3 c3 k3
  have b3 := F3.binds (ps := ["expression"]) fun _ _ _ _ _ _ us hl => match us, hl with | [_], _ => rfl
  have F4 := fun_mk (st := s_kind_expressions) l4 c4 k4
  have b4 := F4.binds (ps := ["kind"]) fun _ _ _ _ _ _ us hl => match us, hl with | [_], _ => rfl
  have F5 := fun_mk (st := s_expressions_of) l5 c5 k5
  have b5 := F5.binds (ps := ["field"]) fun _ _ _ _ _ _ us hl => match us, hl with | [_], _ => rfl
  have F6 := fun_mk (st := s_first_known) l6 c6 k6
  have b6 := F6.binds (ps := ["known", "name", "kind"]) fun _ _ _ _ _ _ us hl => match us, hl with | [_, _, _], _ => rfl
  have F7 := fun_mk (st := s_field_kind) l7 c7 k7
  have b7 := F7.binds (ps := ["field", "scope"]) fun _ _ _ _ _ _ us hl => match us, hl with | [_, _], _ => rfl
  have F8 := fun_mk (st := s_walk) l8 c8 k8
  have b8 := F8.binds (ps := ["form"]) fun _ _ _ _ _ _ us hl => match us, hl with | [_], _ => rfl
  have F9 := fun_mk (st := s_twice) l9 c9 k9
  have b9 := F9.binds (ps := ["form"]) fun _ _ _ _ _ _ us hl => match us, hl with | [_], _ => rfl
  have F10 := fun_mk (st := s_is_no) l10 c10 k10
  have b10 := F10.binds (ps := ["scope", "expression", "kind"]) fun _ _ _ _ _ _ us hl => match us, hl with | [_, _, _], _ => rfl
  have F11 := fun_mk (st := s_question_issues) l11 c11 k11
  have b11 := F11.binds (ps := ["name", "kind", "scope"]) fun _ _ _ _ _ _ us hl => match us, hl with | [_, _, _], _ => rfl
  have F12 := fun_mk (st := s_field_issues) l12 c12 k12
  have b12 := F12.binds (ps := ["field", "scope"]) fun _ _ _ _ _ _ us hl => match us, hl with | [_, _], _ => rfl
  have F13 := fun_mk (st := s_issues) l13 c13 k13
  have b13 := F13.binds (ps := ["form"]) fun _ _ _ _ _ _ us hl => match us, hl with | [_], _ => rfl
  have F14 := fun_mk (st := s_law_cell) l14 c14 k14
  have b14 := F14.binds (ps := ["_law_script", "_law_k"]) fun _ _ _ _ _ _ us hl => match us, hl with | [_, _], _ => rfl
  have F15 := fun_mk (st := s_law_digits) l15 c15 k15
  have b15 := F15.binds (ps := ["_law_script", "_law_first", "_law_last"]) fun _ _ _ _ _ _ us hl => match us, hl with | [_, _, _], _ => rfl
  have F16 := fun_mk (st := s_law_draw) l16 c16 k16
  have b16 := F16.binds (ps := ["_law_box", "_law_many"]) fun _ _ _ _ _ _ us hl => match us, hl with | [_, _], _ => rfl
  have F17 := fun_mk (st := s_law_pick) l17 c17 k17
  have b17 := F17.binds (ps := ["_law_box", "_law_rows"]) fun _ _ _ _ _ _ us hl => match us, hl with | [_, _], _ => rfl
  have F18 := fun_mk (st := s_law_named) l18 c18 k18
  have b18 := F18.binds (ps := ["_law_kinds", "_law_kind"]) fun _ _ _ _ _ _ us hl => match us, hl with | [_, _], _ => rfl
  have F19 := fun_mk (st := s_law_number) l19 c19 k19
  have b19 := F19.binds (ps := ["_law_box", "_law_scope", "_law_depth"]) fun _ _ _ _ _ _ us hl => match us, hl with | [_, _, _], _ => rfl
  have F20 := fun_mk (st := s_law_truth) l20 c20 k20
  have b20 := F20.binds (ps := ["_law_box", "_law_scope", "_law_depth"]) fun _ _ _ _ _ _ us hl => match us, hl with | [_, _, _], _ => rfl
  have F21 := fun_mk (st := s_law_condition) l21 c21 k21
  have b21 := F21.binds (ps := ["_law_box", "_law_scope"]) fun _ _ _ _ _ _ us hl => match us, hl with | [_, _], _ => rfl
  have F22 := fun_mk (st := s_law_question_kind) l22 c22 k22
  have b22 := F22.binds (ps := ["_law_box", "_law_scope"]) fun _ _ _ _ _ _ us hl => match us, hl with | [_, _], _ => rfl
  have F23 := fun_mk (st := s_law_field) l23 c23 k23
  have b23 := F23.binds (ps := ["_law_box", "_law_name", "_law_scope"]) fun _ _ _ _ _ _ us hl => match us, hl with | [_, _, _], _ => rfl
  have F24 := fun_mk (st := s_law_form) l24 c24 k24
  have b24 := F24.binds (ps := ["_law_box"]) fun _ _ _ _ _ _ us hl => match us, hl with | [_], _ => rfl
  have F25 := fun_mk (st := s_law_names_of) l25 c25 k25
  have b25 := F25.binds (ps := ["_law_expressions"]) fun _ _ _ _ _ _ us hl => match us, hl with | [_], _ => rfl
  have F26 := fun_mk (st := s_law_section_reads) l26 c26 k26
  have b26 := F26.binds (ps := ["_law_section"]) fun _ _ _ _ _ _ us hl => match us, hl with | [_], _ => rfl
  have F27 := fun_mk (st := s_law_with) l27 c27 k27
  have b27 := F27.binds (ps := ["_law_form_here", "_law_at", "_law_fields"]) fun _ _ _ _ _ _ us hl => match us, hl with | [_, _, _], _ => rfl
  have F28 := fun_mk (st := s_law_all_read) l28 c28 k28
  have b28 := F28.binds (ps := ["_law_form_here"]) fun _ _ _ _ _ _ us hl => match us, hl with | [_], _ => rfl
  have F29 := fun_mk (st := s_law_fields_exchanged) l29 c29 k29
  have b29 := F29.binds (ps := ["_law_form_here", "_law_at"]) fun _ _ _ _ _ _ us hl => match us, hl with | [_, _], _ => rfl
  have F30 := fun_mk (st := s_law_sections_exchanged) l30 c30 k30
  have b30 := F30.binds (ps := ["_law_form_here"]) fun _ _ _ _ _ _ us hl => match us, hl with | [_], _ => rfl
  have F31 := fun_mk (st := s_law_twice_told) l31 c31 k31
  have b31 := F31.binds (ps := ["_law_form_here"]) fun _ _ _ _ _ _ us hl => match us, hl with | [_], _ => rfl
  have F32 := fun_mk (st := s_law) l32 c32 k32
  have b32 := F32.binds (ps := ["_law_script"]) fun _ _ _ _ _ _ us hl => match us, hl with | [_], _ => rfl
  have F33 := fun_mk (st := s_Scope___init__) l33 c33 k33
  have b33 := F33.binds (ps := ["self"]) fun _ _ _ _ _ _ us hl => match us, hl with | [_], _ => rfl
  have F34 := fun_mk (st := s_Scope_kind) l34 c34 k34
  have b34 := F34.binds (ps := ["self", "expression"]) fun _ _ _ _ _ _ us hl => match us, hl with | [_, _], _ => rfl
  have F35 := fun_mk (st := s_Scope_op) l35 c35 k35
  have b35 := F35.binds (ps := ["self", "sign", "one", "other"]) fun _ _ _ _ _ _ us hl => match us, hl with | [_, _, _, _], _ => rfl
  have F36 := fun_mk (st := s_Scope_choice) l36 c36 k36
  have b36 := F36.binds (ps := ["self", "condition", "one", "other"]) fun _ _ _ _ _ _ us hl => match us, hl with | [_, _, _, _], _ => rfl
  have F37 := fun_mk (st := s_Scope_ask) l37 c37 k37
  have b37 := F37.binds (ps := ["self", "function", "name"]) fun _ _ _ _ _ _ us hl => match us, hl with | [_, _, _], _ => rfl
  have F38 := fun_mk (st := s_Survey___init__) l38 c38 k38
  have b38 := F38.binds (ps := ["self"]) fun _ _ _ _ _ _ us hl => match us, hl with | [_], _ => rfl
  have F39 := fun_mk (st := s_Survey_scope) l39 c39 k39
  have b39 := F39.binds (ps := ["self", "section", "own"]) fun _ _ _ _ _ _ us hl => match us, hl with | [_, _, _], _ => rfl
  have F40 := fun_mk (st := s_Survey_leave) l40 c40 k40
  have b40 := F40.binds (ps := ["self", "section", "own"]) fun _ _ _ _ _ _ us hl => match us, hl with | [_, _, _], _ => rfl
  refine ⟨PySem.W.fnOf "law" "law" (defArgs s_law) (defBody s_law) (defScope s_law) .none kV32 dc32 pm32 an32 cd32 ct32, fun s v => .of_eq rfl, fun base _ _ => ?_⟩
  have H1 : Has l.prog w K mg base "inner" 1 ["expression"] (spInner) := ⟨f1, _, ok_inner F1, PySem.W.mg_of X G a1, k1, b1⟩
  have H2 := all_gather (P := l.prog) (w := w) (base := base) F2 b2 (PySem.W.mg_of X G a2) H1 5
  have H3 : Has l.prog w K mg base "names_in" 7 ["expression"] (spNames 5) := ⟨f3, _, ok_names_in (n := 5) T F3 H2, PySem.W.mg_of X G a3, k3, b3⟩
  have H4 : Has l.prog w K mg base "kind_expressions" 1 ["kind"] (spKindExprs) := ⟨f4, _, ok_kind_expressions T F4, PySem.W.mg_of X G a4, k4, b4⟩
  have H5 : Has l.prog w K mg base "expressions_of" 2 ["field"] (spExprs) := ⟨f5, _, ok_expressions_of T F5 H4, PySem.W.mg_of X G a5, k5, b5⟩
  have H6 : Has l.prog w K mg base "first_known" 1 ["known", "name", "kind"] (spFirst) := ⟨f6, _, ok_first_known F6, PySem.W.mg_of X G a6, k6, b6⟩
  have K5 := all_kind (P := l.prog) (w := w) (base := base) T F35 b35 ⟨a35, i35, k35⟩ F36 b36 ⟨a36, i36, k36⟩ F37 b37 ⟨a37, i37, k37⟩ F34 b34 ⟨a34, i34, k34⟩ 5
  have H7 : Has l.prog w K mg base "field_kind" 11 ["field", "scope"] (spFieldKind cSc 5) := ⟨f7, _, ok_field_kind (n := 5) T F7 K5, PySem.W.mg_of X G a7, k7, b7⟩
  have MSc : HasC l.prog w K mg base cSc "Scope" 1 ["self"] (spScInit cSc) := ⟨f33, _, ok_sc_init T F33, ⟨mkSc, a33, i33, kcSc⟩, PySem.W.mg_of X G aSc, b33⟩
  have MSv : HasC l.prog w K mg base cSv "Survey" 1 ["self"] (spSvInit cSv) := ⟨f38, _, ok_sv_init T F38, ⟨mkSv, a38, i38, kcSv⟩, PySem.W.mg_of X G aSv, b38⟩
  have MScope : HasM l.prog w K mg base cSv "scope" 3 ["self", "section", "own"] (spSvScope cSv cSc) := ⟨f39, _, ok_sv_scope T F39 MSc H6, ⟨a39, i39, k39⟩, b39⟩
  have MLeave : HasM l.prog w K mg base cSv "leave" 2 ["self", "section", "own"] (spLeave cSv) := ⟨f40, _, ok_sv_leave T F40 H6, ⟨a40, i40, k40⟩, b40⟩
  have H8 : Has l.prog w K mg base "walk" 14 ["form"] (spWalk cSc 5) := ⟨f8, _, ok_walk (n := 5) T F8 MSv MScope MLeave H7, PySem.W.mg_of X G a8, k8, b8⟩
  have H9 : Has l.prog w K mg base "twice" 1 ["form"] (spTwice) := ⟨f9, _, ok_twice T F9, PySem.W.mg_of X G a9, k9, b9⟩
  have H10 : Has l.prog w K mg base "is_no" 11 ["scope", "expression", "kind"] (spIsNo cSc 5) := ⟨f10, _, ok_is_no (n := 5) T F10 K5, PySem.W.mg_of X G a10, k10, b10⟩
  have H11 : Has l.prog w K mg base "question_issues" 12 ["name", "kind", "scope"] (spQIss cSc 5) := ⟨f11, _, ok_question_issues (n := 5) T F11 H10, PySem.W.mg_of X G a11, k11, b11⟩
  have H12 : Has l.prog w K mg base "field_issues" 13 ["field", "scope"] (spFIss cSc 5) := ⟨f12, _, ok_field_issues (n := 5) T F12 H10 H11 K5, PySem.W.mg_of X G a12, k12, b12⟩
  have H13 : Has l.prog w K mg base "issues" 15 ["form"] (spIssues 5) := ⟨f13, _, ok_issues (n := 5) T F13 H10 H12 H9 H8, PySem.W.mg_of X G a13, k13, b13⟩
  have H14 : Has l.prog w K mg base "_law_cell" 1 ["_law_script", "_law_k"] (spCell K) := ⟨f14, _, ok_cell T F14, PySem.W.mg_of X G a14, k14, b14⟩
  have H15 : Has l.prog w K mg base "_law_digits" 2 ["_law_script", "_law_first", "_law_last"] (spDigits K) := ⟨f15, _, ok_digits T F15 H14, PySem.W.mg_of X G a15, k15, b15⟩
  have H16 : Has l.prog w K mg base "_law_draw" 1 ["_law_box", "_law_many"] (spDraw) := ⟨f16, _, ok_draw T F16, PySem.W.mg_of X G a16, k16, b16⟩
  have H17 : Has l.prog w K mg base "_law_pick" 2 ["_law_box", "_law_rows"] (spPick) := ⟨f17, _, ok_pick T F17 H16, PySem.W.mg_of X G a17, k17, b17⟩
  have H18 : Has l.prog w K mg base "_law_named" 1 ["_law_kinds", "_law_kind"] (spNamed) := ⟨f18, _, ok_named T F18, PySem.W.mg_of X G a18, k18, b18⟩
  obtain ⟨H19, H20⟩ := all_numtru (P := l.prog) (w := w) (base := base) T F19 b19 (PySem.W.mg_of X G a19) k19 F20 b20 (PySem.W.mg_of X G a20) k20 H16 H17 H18 3
  have H21 : Has l.prog w K mg base "_law_condition" 11 ["_law_box", "_law_scope"] (spCond) := ⟨f21, _, ok_condition T F21 H16 H20, PySem.W.mg_of X G a21, k21, b21⟩
  have H22 : Has l.prog w K mg base "_law_question_kind" 12 ["_law_box", "_law_scope"] (spQk) := ⟨f22, _, ok_question_kind T F22 H16 H19 H21, PySem.W.mg_of X G a22, k22, b22⟩
  have H23 : Has l.prog w K mg base "_law_field" 13 ["_law_box", "_law_name", "_law_scope"] (spFld) := ⟨f23, _, ok_field T F23 H16 H19 H20 H21 H22, PySem.W.mg_of X G a23, k23, b23⟩
  have H24 : Has l.prog w K mg base "_law_form" 14 ["_law_box"] (spForm) := ⟨f24, _, ok_form T F24 H16 H21 H23, PySem.W.mg_of X G a24, k24, b24⟩
  have H25 : Has l.prog w K mg base "_law_names_of" 8 ["_law_expressions"] (spNamesOf) := ⟨f25, _, ok_names_of T F25 H3, PySem.W.mg_of X G a25, k25, b25⟩
  have H26 : Has l.prog w K mg base "_law_section_reads" 9 ["_law_section"] (spReads) := ⟨f26, _, ok_section_reads T F26 H3 H5 H25, PySem.W.mg_of X G a26, k26, b26⟩
  have H27 : Has l.prog w K mg base "_law_with" 1 ["_law_form_here", "_law_at", "_law_fields"] (spWith) := ⟨f27, _, ok_with T F27, PySem.W.mg_of X G a27, k27, b27⟩
  have H28 : Has l.prog w K mg base "_law_all_read" 10 ["_law_form_here"] (spAllRead) := ⟨f28, _, ok_all_read T F28 H26, PySem.W.mg_of X G a28, k28, b28⟩
  have H29 : Has l.prog w K mg base "_law_fields_exchanged" 16 ["_law_form_here", "_law_at"] (spFEx) := ⟨f29, _, ok_fields_exchanged T F29 H5 H25 H27 H13, PySem.W.mg_of X G a29, k29, b29⟩
  have H30 : Has l.prog w K mg base "_law_sections_exchanged" 16 ["_law_form_here"] (spSEx) := ⟨f30, _, ok_sections_exchanged T F30 H26 H13, PySem.W.mg_of X G a30, k30, b30⟩
  have H31 : Has l.prog w K mg base "_law_twice_told" 16 ["_law_form_here"] (spTw) := ⟨f31, _, ok_twice_told T F31 H28 H27 H13, PySem.W.mg_of X G a31, k31, b31⟩
  exact ok_law T F32 H15 H24 H30 H31 H29 H27 H13
theorem walk {l : PySem.W.OpenLaw} {q : Program} {loose : List Str} {XP : (Str → Option Value) → Heap → Prop} {YP : World → Heap → Prop} {d : DefRec} {K : Params → PySem.W.Frag} (hn : l.most = some 63) (hdf : d.params.defaults = [])
    (hY : ∀ (w : World) (h : Heap), YP w h → (K w.params).In h)
    (F : ∀ (w : World) (mg : Str → Option Value) (fa : Addr) (h : Heap), (K w.params).In h → h.Ns mainGlobals mg → mg d.name = some (.ref fa) →
      ∃ fd : FuncData, (∀ (s : Shared) (u : Value), BindsTo s fd ⟨[u], []⟩ [("_law_script", u)]) ∧ ∀ base : Heap, (K w.params).In base → base.Ns mainGlobals mg → FnOk l.prog w (K w.params) mg base CX0 17 fa fd ["_law_script"] (spLaw (K w.params))) :
    PySem.W.WalkO q loose XP YP l.row.toRowW d [] (fun f vs => PySem.call f vs) :=
  L2.walk_of (n := 63) (k := 17) (x := "_law_script") (CX := fun _ => CX0) (sp := fun w => spLaw (K w.params)) hn (by decide) hdf ⟨rfl, by decide, by decide⟩ hY F (fun _ _ a ns hl _ hS => ⟨a, ns, rfl, hS, fun _ => rfl⟩) fun _ _ _ _ _ z => z
end FF
open PySem PySem.W PyProof.Rows
set_option maxRecDepth 100000 in
set_option maxHeartbeats 0 in
theorem PySem.Challenge.cw_formflow_k22_order_of_places_holds : PySem.Challenge.rw_formflow_k22_order_of_places.Holds := by
  w_on; o_law; k_head; (case hw => w_witness2)
  k_fill
  refine FF.walk (l := PySem.Challenge.rw_formflow_k22_order_of_places) rfl rfl (fun w h Y => PySem.W.kIn_of Y) ?F
  case F =>
    intro w mg fa h KX G hmg
    refine' FF.all_mk KX G hmg ?aSc ?pgSc ?hdSc ?poSc ?saSc ?mkSc ?kcSc ?aSv ?pgSv ?hdSv ?poSv ?saSv ?mkSv ?kcSv ?nSc_names ?nSc_over ?nSc_sections ?nSc_has_row ?nSv_names ?nSv_over ?nSv_sections ?a1 ?l1 ?c1 ?k1 ?a2 ?l2 ?c2 ?k2 ?a3 ?l3 ?c3 ?k3 ?a4 ?l4 ?c4 ?k4 ?a5 ?l5 ?c5 ?k5 ?a6 ?l6 ?c6 ?k6 ?a7 ?l7 ?c7 ?k7 ?a8 ?l8 ?c8 ?k8 ?a9 ?l9 ?c9 ?k9 ?a10 ?l10 ?c10 ?k10 ?a11 ?l11 ?c11 ?k11 ?a12 ?l12 ?c12 ?k12 ?a13 ?l13 ?c13 ?k13 ?a14 ?l14 ?c14 ?k14 ?a15 ?l15 ?c15 ?k15 ?a16 ?l16 ?c16 ?k16 ?a17 ?l17 ?c17 ?k17 ?a18 ?l18 ?c18 ?k18 ?a19 ?l19 ?c19 ?k19 ?a20 ?l20 ?c20 ?k20 ?a21 ?l21 ?c21 ?k21 ?a22 ?l22 ?c22 ?k22 ?a23 ?l23 ?c23 ?k23 ?a24 ?l24 ?c24 ?k24 ?a25 ?l25 ?c25 ?k25 ?a26 ?l26 ?c26 ?k26 ?a27 ?l27 ?c27 ?k27 ?a28 ?l28 ?c28 ?k28 ?a29 ?l29 ?c29 ?k29 ?a30 ?l30 ?c30 ?k30 ?a31 ?l31 ?c31 ?k31 ?a32 ?l32 ?c32 ?k32 ?a33 ?i33 ?l33 ?c33 ?k33 ?a34 ?i34 ?l34 ?c34 ?k34 ?a35 ?i35 ?l35 ?c35 ?k35 ?a36 ?i36 ?l36 ?c36 ?k36 ?a37 ?i37 ?l37 ?c37 ?k37 ?a38 ?i38 ?l38 ?c38 ?k38 ?a39 ?i39 ?l39 ?c39 ?k39 ?a40 ?i40 ?l40 ?c40 ?k40 ?z_len ?z_int ?z_str ?z_list ?z_tuple ?z_dict ?z_set ?z_range ?z_enumerate ?aB ?mW ?lW ?eW ?mP ?lP ?eP ?mN ?lN ?eN ?mO ?lO ?eO ?mA ?lA ?kA ?d1 ?d2 ?d3 ?d4 ?d5
    (case aSc => k_is)
    (case pgSc => k_is)
    (case hdSc => k_is)
    (case poSc => k_is)
    (case saSc => k_is)
    (case mkSc => k_is)
    (case kcSc => k_is)
    (case aSv => k_is)
    (case pgSv => k_is)
    (case hdSv => k_is)
    (case poSv => k_is)
    (case saSv => k_is)
    (case mkSv => k_is)
    (case kcSv => k_is)
    (case nSc_names => k_is)
    (case nSc_over => k_is)
    (case nSc_sections => k_is)
    (case nSc_has_row => k_is)
    (case nSv_names => k_is)
    (case nSv_over => k_is)
    (case nSv_sections => k_is)
    (case a1 => k_is)
    (case l1 => k_is)
    (case c1 => k_is)
    (case k1 => k_is)
    (case a2 => k_is)
    (case l2 => k_is)
    (case c2 => k_is)
    (case k2 => k_is)
    (case a3 => k_is)
    (case l3 => k_is)
    (case c3 => k_is)
    (case k3 => k_is)
    (case a4 => k_is)
    (case l4 => k_is)
    (case c4 => k_is)
    (case k4 => k_is)
    (case a5 => k_is)
    (case l5 => k_is)
    (case c5 => k_is)
    (case k5 => k_is)
    (case a6 => k_is)
    (case l6 => k_is)
    (case c6 => k_is)
    (case k6 => k_is)
    (case a7 => k_is)
    (case l7 => k_is)
    (case c7 => k_is)
    (case k7 => k_is)
    (case a8 => k_is)
    (case l8 => k_is)
    (case c8 => k_is)
    (case k8 => k_is)
    (case a9 => k_is)
    (case l9 => k_is)
    (case c9 => k_is)
    (case k9 => k_is)
    (case a10 => k_is)
    (case l10 => k_is)
    (case c10 => k_is)
    (case k10 => k_is)
    (case a11 => k_is)
    (case l11 => k_is)
    (case c11 => k_is)
    (case k11 => k_is)
    (case a12 => k_is)
    (case l12 => k_is)
    (case c12 => k_is)
    (case k12 => k_is)
    (case a13 => k_is)
    (case l13 => k_is)
    (case c13 => k_is)
    (case k13 => k_is)
    (case a14 => k_is)
    (case l14 => k_is)
    (case c14 => k_is)
    (case k14 => k_is)
    (case a15 => k_is)
    (case l15 => k_is)
    (case c15 => k_is)
    (case k15 => k_is)
    (case a16 => k_is)
    (case l16 => k_is)
    (case c16 => k_is)
    (case k16 => k_is)
    (case a17 => k_is)
    (case l17 => k_is)
    (case c17 => k_is)
    (case k17 => k_is)
    (case a18 => k_is)
    (case l18 => k_is)
    (case c18 => k_is)
    (case k18 => k_is)
    (case a19 => k_is)
    (case l19 => k_is)
    (case c19 => k_is)
    (case k19 => k_is)
    (case a20 => k_is)
    (case l20 => k_is)
    (case c20 => k_is)
    (case k20 => k_is)
    (case a21 => k_is)
    (case l21 => k_is)
    (case c21 => k_is)
    (case k21 => k_is)
    (case a22 => k_is)
    (case l22 => k_is)
    (case c22 => k_is)
    (case k22 => k_is)
    (case a23 => k_is)
    (case l23 => k_is)
    (case c23 => k_is)
    (case k23 => k_is)
    (case a24 => k_is)
    (case l24 => k_is)
    (case c24 => k_is)
    (case k24 => k_is)
    (case a25 => k_is)
    (case l25 => k_is)
    (case c25 => k_is)
    (case k25 => k_is)
    (case a26 => k_is)
    (case l26 => k_is)
    (case c26 => k_is)
    (case k26 => k_is)
    (case a27 => k_is)
    (case l27 => k_is)
    (case c27 => k_is)
    (case k27 => k_is)
    (case a28 => k_is)
    (case l28 => k_is)
    (case c28 => k_is)
    (case k28 => k_is)
    (case a29 => k_is)
    (case l29 => k_is)
    (case c29 => k_is)
    (case k29 => k_is)
    (case a30 => k_is)
    (case l30 => k_is)
    (case c30 => k_is)
    (case k30 => k_is)
    (case a31 => k_is)
    (case l31 => k_is)
    (case c31 => k_is)
    (case k31 => k_is)
    (case a32 => k_is)
    (case l32 => k_is)
    (case c32 => k_is)
    (case k32 => k_is)
    (case a33 => k_is)
    (case i33 => k_is)
    (case l33 => k_is)
    (case c33 => k_is)
    (case k33 => k_is)
    (case a34 => k_is)
    (case i34 => k_is)
    (case l34 => k_is)
    (case c34 => k_is)
    (case k34 => k_is)
    (case a35 => k_is)
    (case i35 => k_is)
    (case l35 => k_is)
    (case c35 => k_is)
    (case k35 => k_is)
    (case a36 => k_is)
    (case i36 => k_is)
    (case l36 => k_is)
    (case c36 => k_is)
    (case k36 => k_is)
    (case a37 => k_is)
    (case i37 => k_is)
    (case l37 => k_is)
    (case c37 => k_is)
    (case k37 => k_is)
    (case a38 => k_is)
    (case i38 => k_is)
    (case l38 => k_is)
    (case c38 => k_is)
    (case k38 => k_is)
    (case a39 => k_is)
    (case i39 => k_is)
    (case l39 => k_is)
    (case c39 => k_is)
    (case k39 => k_is)
    (case a40 => k_is)
    (case i40 => k_is)
    (case l40 => k_is)
    (case c40 => k_is)
    (case k40 => k_is)
    (case z_len => k_is)
    (case z_int => k_is)
    (case z_str => k_is)
    (case z_list => k_is)
    (case z_tuple => k_is)
    (case z_dict => k_is)
    (case z_set => k_is)
    (case z_range => k_is)
    (case z_enumerate => k_is)
    (case aB => k_is)
    (case mW => k_is)
    (case lW => k_is)
    (case eW => rfl)
    (case mP => k_is)
    (case lP => k_is)
    (case eP => rfl)
    (case mN => k_is)
    (case lN => k_is)
    (case eN => rfl)
    (case mO => k_is)
    (case lO => k_is)
    (case eO => rfl)
    (case mA => k_is)
    (case lA => k_is)
    (case kA => k_keys)
    (case d1 => k_is)
    (case d2 => k_is)
    (case d3 => k_is)
    (case d4 => k_is)
    (case d5 => k_is)
