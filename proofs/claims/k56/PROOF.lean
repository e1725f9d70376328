import PyProof.Rows.All
import HandS.ForMost
import HandS.Exc
import HandS.ExcInit
import HandS.Wide
import HandS.TupAny
import HandS.TupMul
import HandS.TupLe
import HandS.Style
import HandS.Deep
import HandS.Star
import HandS.IsInst
import HandS.SortInts
import HandS.Conv
import HandS.TryOnly
import HandS.More
import HandS.Defaults
import HandS.WordsExc
import HandS.ExcOwn
import HandS.Ends
import HandS.HeadEnd
import HandS.DictComp
import HandS.Iter
import KE.GoesEnum
import HandS.HeadHook1
import HandS.DictTup
import HandS.SortRule
import KE.DataMinMax
import HandS.SortKw
import PyProof.Claim2Refuses
import HandS.Zip
import KE.KExcIs
import HandS.Head2
import HandS.HeadHook2
import HandS.SetKeys
import KE.KDictWalk
import KE.KSortKeySt
import HandS.Text
import PyProof.StrOps2
import HandS.ExcField
import HandS.ForSpec
import KE.DatumOrd
import KE.IntTextLaws
import KE.IntTextText
import PySem.Challenge.RW_hastyways_k56_shapes_written
import KE.KStateDown
import HandS.Words
import HandS.Head0
import HandS.Head1
import OpenK.AllK
import Wide.FinOn
set_option Elab.async false
set_option linter.all false
set_option maxRecDepth 100000
namespace L2.HW
open PySem PySem.Spec PyProof.Rows

inductive Va where
  | d (x : PyData)
  | loc (n : Nat)
  | tup (ws : List Va)
  | dct (kvs : List (Int × PyData))
  | exc (c : Str) (f : Option PyData)
  | scr (ns : List Int)
inductive Ob where
  | lst (ws : List Va)
  | di (kvs : List (Int × Va))
  | dt (kvs : List (List Int × Va))
  | ins (c : Str) (fs : List (Str × Va))
abbrev LH := List (Option Ob)
abbrev En := List (Option Va)
inductive Res (α : Type) where
  | ok (a : α) (L : LH)
  | exc (c : Str) (f : Option PyData) (L : LH)
  | stuck
def Res.bind {α β : Type} (r : Res α) (k : α → LH → Res β) : Res β :=
  match r with
  | .ok a L => k a L
  | .exc c f L => .exc c f L
  | .stuck => .stuck
@[simp] theorem Res.bind_ok {α β : Type} (a : α) (L : LH) (k : α → LH → Res β) : (Res.ok a L).bind k = k a L := (rfl)
@[simp] theorem Res.bind_exc {α β : Type} (c : Str) (f : Option PyData) (L : LH) (k : α → LH → Res β) : (Res.exc c f L).bind k = .exc c f L := (rfl)
@[simp] theorem Res.bind_stuck {α β : Type} (k : α → LH → Res β) : (Res.stuck).bind k = .stuck := (rfl)
abbrev EF := En → LH → Res Va

def mask (H : Hp) (P : List Addr) : Hp := fun b => if b ∈ P then none else H b
theorem mask_of {H : Hp} {P : List Addr} {b : Addr} {o : HO} (n : b ∉ P) (e : H b = some o) : mask H P b = some o := by
  unfold mask; rw [if_neg n]; exact e
theorem of_mask {H : Hp} {P : List Addr} {b : Addr} {o : HO} (e : mask H P b = some o) : b ∉ P ∧ H b = some o := by
  unfold mask at e
  split at e
  · cases e
  · exact ⟨by assumption, e⟩
def Le (M M' : Hp) : Prop := ∀ b o, M b = some o → M' b = some o
theorem Le.refl (M : Hp) : Le M M := fun _ _ e => e
theorem Le.trans {A B C : Hp} (h : Le A B) (k : Le B C) : Le A C := fun b o e => k b o (h b o e)
theorem mask_le (H : Hp) (P : List Addr) : Le (mask H P) H := fun _ _ e => (of_mask e).2
theorem Rd.le {M M' : Hp} (h : Le M M') {a : Addr} {u : HO} (r : Rd M a u) : Rd M' a u := by
  rcases r with r | ⟨o, r⟩
  · exact .inl (h _ _ r)
  · exact .inr ⟨o, h _ _ r⟩
theorem SqL.le {K : PySem.W.Frag} {M M' : Hp} (h : Le M M') {a : Addr} {xs : List V} (r : SqL K M a xs) : SqL K M' a xs := by
  rcases r with r | r
  · exact .inl (Rd.le h r)
  · exact .inr r
mutual
/-- v is the data x -/
inductive Dq (M : Hp) : V → PyData → Prop
  | non : Dq M .non .none
  | bl (b : Bool) : Dq M (.bl b) (.bool b)
  | int (i : Int) : Dq M (.int i) (.int i)
  | str (x : Str) : Dq M (.str x) (.str x)
  | lst {a : Addr} {xs : List V} {ds : List PyData} : M a = some (.lst xs) → DqAll M xs ds → Dq M (.ref a) (.list ds)
  | tup {a : Addr} {xs : List V} {ds : List PyData} : M a = some (.tup xs) → DqAll M xs ds → Dq M (.ref a) (.tuple ds)
inductive DqAll (M : Hp) : List V → List PyData → Prop
  | nil : DqAll M [] []
  | cons {v : V} {vs : List V} {d : PyData} {ds : List PyData} : Dq M v d → DqAll M vs ds → DqAll M (v :: vs) (d :: ds)
end
mutual
theorem Dq.le {M M' : Hp} (h : Le M M') : ∀ {v : V} {x : PyData}, Dq M v x → Dq M' v x
  | _, _, .non => .non
  | _, _, .bl b => .bl b
  | _, _, .int i => .int i
  | _, _, .str x => .str x
  | _, _, .lst q r => .lst (h _ _ q) (DqAll.le h r)
  | _, _, .tup q r => .tup (h _ _ q) (DqAll.le h r)
theorem DqAll.le {M M' : Hp} (h : Le M M') : ∀ {vs : List V} {xs : List PyData}, DqAll M vs xs → DqAll M' vs xs
  | _, _, .nil => .nil
  | _, _, .cons a b => .cons (Dq.le h a) (DqAll.le h b)
end
mutual
theorem Dq.dp {K : PySem.W.Frag} {M : Hp} : ∀ {v : V} {x : PyData}, Dq M v x → Dp K M v x
  | _, _, .non => .non
  | _, _, .bl b => .bl b
  | _, _, .int i => .int i
  | _, _, .str x => .str x
  | _, _, .lst q r => .lst (SqL.of q) (DqAll.dp r)
  | _, _, .tup q r => .tup (SqT.of q) (DqAll.dp r)
theorem DqAll.dp {K : PySem.W.Frag} {M : Hp} : ∀ {vs : List V} {xs : List PyData}, DqAll M vs xs → DpAll K M vs xs
  | _, _, .nil => .nil
  | _, _, .cons a b => .cons (Dq.dp a) (DqAll.dp b)
end
theorem DqAll.len {M : Hp} : ∀ {vs : List V} {xs : List PyData}, DqAll M vs xs → vs.length = xs.length
  | _, _, .nil => rfl
  | _, _, .cons _ b => by simp [DqAll.len b]

def exk (e C : Addr) (d : Option Addr) : HO := .ext fun h => ∃ (oe : Obj) (vs : Array Value), h.get? e = some oe ∧ oe.cls = .ref C ∧ oe.dict = d ∧ oe.data = .fields vs
def ExR (mg : Str → Option Value) (M : Hp) (c : Str) (f : Option PyData) (cls : Value) (d : Option Addr) : Prop :=
  ∃ C : Addr, mg c = some (.ref C) ∧ cls = .ref C ∧ match f with
    | none => d = none
    | some x => ∃ dd v, d = some dd ∧ M dd = some (.xd [("spot", v)]) ∧ Dq M v x
theorem ExR.le {mg : Str → Option Value} {M M' : Hp} (h : Le M M') {c : Str} {f : Option PyData} {cls : Value} {d : Option Addr} (r : ExR mg M c f cls d) : ExR mg M' c f cls d := by
  obtain ⟨C, h1, h2, h3⟩ := r
  refine ⟨C, h1, h2, ?_⟩
  cases f with
  | none => exact h3
  | some x =>
    obtain ⟨dd, v, e1, e2, e3⟩ := h3
    exact ⟨dd, v, e1, h _ _ e2, Dq.le h e3⟩

def KDp (M : Hp) : List (Key × V) → List (Int × PyData) → Prop := Paired fun (p : Key × V) (q : Int × PyData) => p.1 = Sum.inl q.1 ∧ Dq M p.2 q.2
theorem Paired.map2 {α β : Type} {F G : α → β → Prop} (h : ∀ a b, F a b → G a b) : ∀ {xs : List α} {ys : List β}, Paired F xs ys → Paired G xs ys
  | _, _, .nil => .nil
  | _, _, .cons a b => .cons (h _ _ a) (Paired.map2 h b)
theorem KDp.le {M M' : Hp} (h : Le M M') {a : List (Key × V)} {b : List (Int × PyData)} (r : KDp M a b) : KDp M' a b :=
  Paired.map2 (fun _ _ q => ⟨q.1, Dq.le h q.2⟩) r

inductive Rp (K : PySem.W.Frag) (mg : Str → Option Value) (M : Hp) (al : List Addr) : V → Va → Prop where
  | d {v : V} {x : PyData} : Dq M v x → Rp K mg M al v (.d x)
  | loc {n : Nat} {a : Addr} : al[n]? = some a → Rp K mg M al (.ref a) (.loc n)
  | tup {a : Addr} {vs : List V} {ws : List Va} : M a = some (.tup vs) → Paired (Rp K mg M al) vs ws → Rp K mg M al (.ref a) (.tup ws)
  | dct {a : Addr} {kvs : List (Key × V)} {ks : List (Int × PyData)} : M a = some (.dK kvs) → KDp M kvs ks → Rp K mg M al (.ref a) (.dct ks)
  | exc {a : Addr} {C : Addr} {c : Str} {f : Option PyData} {d : Option Addr} : M a = some (exk a C d) → ExR mg M c f (.ref C) d → Rp K mg M al (.ref a) (.exc c f)
  | scr {a : Addr} {ns : List Int} : SqL K M a (ns.map V.int) → Rp K mg M al (.ref a) (.scr ns)
end L2.HW
namespace L2.HW
open PySem PySem.Spec PyProof.Rows
section
variable {K : PySem.W.Frag} {mg : Str → Option Value}
abbrev Rps (K : PySem.W.Frag) (mg : Str → Option Value) (M : Hp) (al : List Addr) : List V → List Va → Prop := Paired (Rp K mg M al)
def ALe (al al' : List Addr) : Prop := ∀ (n : Nat) (a : Addr), al[n]? = some a → al'[n]? = some a
theorem ALe.refl (al : List Addr) : ALe al al := fun _ _ e => e
theorem ALe.app (al be : List Addr) : ALe al (al ++ be) := fun n a e => by
  obtain ⟨h, _⟩ := List.getElem?_eq_some_iff.mp e
  rw [List.getElem?_append_left h]; exact e
mutual
theorem Rp.le {M M' : Hp} {al al' : List Addr} (h : Le M M') (ha : ALe al al') : ∀ {v : V} {w : Va}, Rp K mg M al v w → Rp K mg M' al' v w
  | _, _, .d q => .d (Dq.le h q)
  | _, _, .loc e => .loc (ha _ _ e)
  | _, _, .scr q => .scr (SqL.le h q)
  | _, _, .tup q r => .tup (h _ _ q) (Rps.le h ha r)
  | _, _, .dct e q => .dct (h _ _ e) (KDp.le h q)
  | _, _, .exc e q => .exc (h _ _ e) (ExR.le h q)
theorem Rps.le {M M' : Hp} {al al' : List Addr} (h : Le M M') (ha : ALe al al') : ∀ {vs : List V} {ws : List Va}, Rps K mg M al vs ws → Rps K mg M' al' vs ws
  | _, _, .nil => .nil
  | _, _, .cons a b => .cons (Rp.le h ha a) (Rps.le h ha b)
end

def KRp (K : PySem.W.Frag) (mg : Str → Option Value) (M : Hp) (al : List Addr) : List (Key × V) → List (Int × Va) → Prop := Paired fun (p : Key × V) (q : Int × Va) => p.1 = Sum.inl q.1 ∧ Rp K mg M al p.2 q.2
def TRp (K : PySem.W.Frag) (mg : Str → Option Value) (M : Hp) (al : List Addr) : List (List Key × V) → List (List Int × Va) → Prop := Paired fun (p : List Key × V) (q : List Int × Va) => p.1 = q.1.map Sum.inl ∧ Rp K mg M al p.2 q.2
def FRp (K : PySem.W.Frag) (mg : Str → Option Value) (M : Hp) (al : List Addr) : List (Str × V) → List (Str × Va) → Prop := Paired fun (p : Str × V) (q : Str × Va) => p.1 = q.1 ∧ Rp K mg M al p.2 q.2
def ObR (K : PySem.W.Frag) (mg : Str → Option Value) (M : Hp) (al : List Addr) (H : Hp) (a : Addr) : Ob → Prop
  | .lst ws => ∃ vs, H a = some (.lst vs) ∧ Rps K mg M al vs ws
  | .di kvs => ∃ ks, H a = some (.dK ks) ∧ KRp K mg M al ks kvs
  | .dt kvs => ∃ ks, H a = some (.dT ks) ∧ TRp K mg M al ks kvs
  | .ins c fs => ∃ C dx ks, mg c = some (.ref C) ∧ H a = some (.ins C dx ks) ∧ FRp K mg M al ks fs
theorem ObR.le {M M' H H' : Hp} {al al' : List Addr} {a : Addr} (h : Le M M') (ha : ALe al al') (hh : ∀ o, H a = some o → H' a = some o) : ∀ {o : Ob}, ObR K mg M al H a o → ObR K mg M' al' H' a o
  | .lst ws, ⟨vs, e, r⟩ => ⟨vs, hh _ e, Rps.le h ha r⟩
  | .di kvs, ⟨ks, e, r⟩ => ⟨ks, hh _ e, Paired.map2 (fun _ _ q => ⟨q.1, Rp.le h ha q.2⟩) r⟩
  | .dt kvs, ⟨ks, e, r⟩ => ⟨ks, hh _ e, Paired.map2 (fun _ _ q => ⟨q.1, Rp.le h ha q.2⟩) r⟩
  | .ins c fs, ⟨C, dx, ks, e1, e2, r⟩ => ⟨C, dx, ks, e1, hh _ e2, Paired.map2 (fun _ _ q => ⟨q.1, Rp.le h ha q.2⟩) r⟩
theorem ObR.there {M H : Hp} {al : List Addr} {a : Addr} : ∀ {o : Ob}, ObR K mg M al H a o → ∃ u, H a = some u
  | .lst _, ⟨_, e, _⟩ => ⟨_, e⟩
  | .di _, ⟨_, e, _⟩ => ⟨_, e⟩
  | .dt _, ⟨_, e, _⟩ => ⟨_, e⟩
  | .ins _ _, ⟨_, _, _, _, e, _⟩ => ⟨_, e⟩
structure Rel (K : PySem.W.Frag) (mg : Str → Option Value) (H : Hp) (al T : List Addr) (L : LH) : Prop where
  len : al.length = L.length
  nd : al.Nodup
  dis : ∀ a ∈ al, a ∉ T
  trk : ∀ a, a ∈ al ∨ a ∈ T → H a ≠ none
  cell : ∀ (n : Nat) (o : Ob), L[n]? = some (some o) → ∃ a, al[n]? = some a ∧ ObR K mg (mask H (al ++ T)) al H a o
def Alv (al : List Addr) (L : LH) (b : Addr) : Prop := ∃ (n : Nat) (o : Ob), al[n]? = some b ∧ L[n]? = some (some o)
structure Stp (K : PySem.W.Frag) (mg : Str → Option Value) (H : Hp) (al T : List Addr) (L : LH) (H' : Hp) (al' T' : List Addr) (L' : LH) : Prop where
  rel : Rel K mg H' al' T' L'
  ext : ∃ be, al' = al ++ be ∧ ∀ b ∈ be, H b = none
  text : ∃ te, T' = te ++ T ∧ ∀ b ∈ te, H b = none
  frame : ∀ b o, H b = some o → ¬ Alv al L b → H' b = some o
  stay : ∀ b, H b ≠ none → H' b ≠ none
  lck : ∀ (n : Nat), L[n]? = some none → L'[n]? = some none
  alv : ∀ (n : Nat) (o : Ob), L[n]? = some (some o) → ∃ o', L'[n]? = some (some o')
variable {H H1 H2 : Hp} {al al1 al2 T T1 T2 : List Addr} {L L1 L2 : LH}
theorem Alv.mem {b : Addr} (h : Alv al L b) : b ∈ al := let ⟨_, _, e, _⟩ := h; List.mem_of_getElem? e
theorem Stp.ale (s : Stp K mg H al T L H1 al1 T1 L1) : ALe al al1 := by
  obtain ⟨be, e, _⟩ := s.ext
  rw [e]; exact ALe.app al be
theorem Stp.le (s : Stp K mg H al T L H1 al1 T1 L1) : Le (mask H (al ++ T)) (mask H1 (al1 ++ T1)) := fun b o e => by
  obtain ⟨n, e⟩ := of_mask e
  obtain ⟨be, e1, f1⟩ := s.ext
  obtain ⟨te, e2, f2⟩ := s.text
  have nal : b ∉ al := fun z => n (List.mem_append_left _ z)
  have nT : b ∉ T := fun z => n (List.mem_append_right _ z)
  refine mask_of (fun z => ?_) (s.frame b o e fun z => nal z.mem)
  rw [e1, e2] at z
  simp only [List.mem_append] at z
  rcases z with (z | z) | (z | z)
  · exact nal z
  · rw [f1 b z] at e; cases e
  · rw [f2 b z] at e; cases e
  · exact nT z
theorem Stp.rp (s : Stp K mg H al T L H1 al1 T1 L1) {v : V} {w : Va} (r : Rp K mg (mask H (al ++ T)) al v w) : Rp K mg (mask H1 (al1 ++ T1)) al1 v w := Rp.le s.le s.ale r
theorem Stp.rps (s : Stp K mg H al T L H1 al1 T1 L1) {v : List V} {w : List Va} (r : Rps K mg (mask H (al ++ T)) al v w) : Rps K mg (mask H1 (al1 ++ T1)) al1 v w := Rps.le s.le s.ale r
theorem Stp.refl (r : Rel K mg H al T L) : Stp K mg H al T L H al T L :=
  ⟨r, ⟨[], by simp, fun _ z => nomatch z⟩, ⟨[], by simp, fun _ z => nomatch z⟩, fun _ _ e _ => e, fun _ e => e, fun _ e => e, fun _ o e => ⟨o, e⟩⟩
theorem Stp.alvB (s : Stp K mg H al T L H1 al1 T1 L1) (hl : al.length = L.length) {b : Addr} (hb : H b ≠ none) (h : Alv al1 L1 b) : Alv al L b := by
  obtain ⟨n, o, e1, e2⟩ := h
  obtain ⟨be, e, f⟩ := s.ext
  by_cases q : n < al.length
  · have e3 : al[n]? = some b := by rw [e, List.getElem?_append_left q] at e1; exact e1
    have hn : n < L.length := by omega
    cases e4 : L[n] with
    | none =>
      have : L[n]? = some none := by rw [List.getElem?_eq_getElem hn, e4]
      rw [s.lck n this] at e2; cases e2
    | some o' => exact ⟨n, o', e3, by rw [List.getElem?_eq_getElem hn, e4]⟩
  · have : b ∈ be := by
      rw [e, List.getElem?_append_right (by omega)] at e1
      exact List.mem_of_getElem? e1
    exact absurd (f b this) hb
theorem Stp.trans (hl : al.length = L.length) (s : Stp K mg H al T L H1 al1 T1 L1) (t : Stp K mg H1 al1 T1 L1 H2 al2 T2 L2) : Stp K mg H al T L H2 al2 T2 L2 := by
  obtain ⟨be1, e1, f1⟩ := s.ext
  obtain ⟨be2, e2, f2⟩ := t.ext
  obtain ⟨te1, e3, f3⟩ := s.text
  obtain ⟨te2, e4, f4⟩ := t.text
  have back : ∀ b, H1 b = none → H b = none := fun b z => by
    cases e : H b with
    | none => rfl
    | some o => exact absurd z (s.stay b (by rw [e]; simp))
  refine ⟨t.rel, ⟨be1 ++ be2, by rw [e2, e1, List.append_assoc], fun b hb => ?_⟩, ⟨te2 ++ te1, by rw [e4, e3, List.append_assoc], fun b hb => ?_⟩, fun b o e n => ?_, fun b e => t.stay b (s.stay b e), fun n e => t.lck n (s.lck n e), fun n o e => ?_⟩
  · rcases List.mem_append.mp hb with z | z
    · exact f1 b z
    · exact back b (f2 b z)
  · rcases List.mem_append.mp hb with z | z
    · exact back b (f4 b z)
    · exact f3 b z
  · have h1 := s.frame b o e n
    exact t.frame b o h1 fun z => n (s.alvB hl (by rw [e]; simp) z)
  · obtain ⟨o', e'⟩ := s.alv n o e
    exact t.alv n o' e'
theorem Stp.drop {te : List Addr} (hte : ∀ b ∈ te, H b = none) (s : Stp K mg H al T L H1 al1 (te ++ T) L1) : Stp K mg H al T L H1 al1 T L1 := by
  have r := s.rel
  have m : Le (mask H1 (al1 ++ (te ++ T))) (mask H1 (al1 ++ T)) := fun b o e => by
    obtain ⟨n, e⟩ := of_mask e
    exact mask_of (fun z => n (by simp only [List.mem_append] at z ⊢; rcases z with z | z; exact .inl z; exact .inr (.inr z))) e
  refine ⟨⟨r.len, r.nd, fun a h z => r.dis a h (List.mem_append_right _ z), fun a h => r.trk a (h.imp id fun z => List.mem_append_right _ z), fun n o e => ?_⟩, s.ext, ⟨[], by simp, fun _ z => nomatch z⟩, s.frame, s.stay, s.lck, s.alv⟩
  obtain ⟨a, e1, q⟩ := r.cell n o e
  exact ⟨a, e1, ObR.le m (ALe.refl _) (fun _ e => e) q⟩
end

structure Conf (K : PySem.W.Frag) (mg : Str → Option Value) (σ : St) (H : Hp) (env : En) (L : LH) (al T : List Addr) : Prop where
  rel : Rel K mg H al T L
  len : σ.length = env.length
  slot : ∀ (i : Nat) (w : Va), env[i]? = some (some w) → ∃ v, σ[i]? = some (some v) ∧ Rp K mg (mask H (al ++ T)) al v w
theorem Conf.stp {K : PySem.W.Frag} {mg : Str → Option Value} {σ : St} {H H' : Hp} {env : En} {L L' : LH} {al al' T T' : List Addr} (c : Conf K mg σ H env L al T) (s : Stp K mg H al T L H' al' T' L') : Conf K mg σ H' env L' al' T' :=
  ⟨s.rel, c.len, fun i w e => let ⟨v, h1, h2⟩ := c.slot i w e; ⟨v, h1, s.rp h2⟩⟩
theorem Conf.put {K : PySem.W.Frag} {mg : Str → Option Value} {σ : St} {H : Hp} {env : En} {L : LH} {al T : List Addr} (c : Conf K mg σ H env L al T) {i : Nat} {v : V} {w : Va} (r : Rp K mg (mask H (al ++ T)) al v w) : Conf K mg (σ.set i (some v)) H (env.set i (some w)) L al T :=
  ⟨c.rel, by simpa using c.len, fun j u e => by
    by_cases h : i = j
    · subst h
      have hi : i < env.length := by
        by_cases q : i < env.length
        · exact q
        · rw [List.getElem?_eq_none (by simpa using q)] at e; cases e
      rw [List.getElem?_set_self hi] at e
      cases e
      exact ⟨v, List.getElem?_set_self (by rw [c.len]; exact hi), r⟩
    · rw [List.getElem?_set_ne h] at e ⊢
      exact c.slot j u e⟩
def Agr (sl : List Nat) (σ σ' : St) : Prop := σ'.length = σ.length ∧ ∀ j, j ∉ sl → σ'[j]? = σ[j]?
theorem Agr.refl (sl : List Nat) (σ : St) : Agr sl σ σ := ⟨rfl, fun _ _ => rfl⟩
theorem Agr.trans {sl sl' : List Nat} {a b c : St} (h : Agr sl a b) (k : Agr sl' b c) : Agr (sl ++ sl') a c := ⟨k.1.trans h.1, fun j hj => (k.2 j fun z => hj (List.mem_append_right _ z)).trans (h.2 j fun z => hj (List.mem_append_left _ z))⟩
theorem Agr.put (i : Nat) (v : Option V) (σ : St) : Agr [i] σ (σ.set i v) := ⟨by simp, fun j hj => by rw [List.getElem?_set_ne]; intro z; exact hj (by simp [z])⟩
end L2.HW
namespace L2.HW
open PySem PySem.Spec PyProof.Rows

def GPost (X : Cx) (Wx : WX) (σ : St) (H : Hp) (al T : List Addr) (L : LH) {α β : Type} (R : Hp → List Addr → β → α → Prop) (r : Res α) (Q : β → Hp → Prop) : Prop :=
  match r with
  | .ok a L' => ∀ b H' al', Stp X.K X.mg H al T L H' al' T L' → R (mask H' (al' ++ T)) al' b a → Q b H'
  | .exc c f L' => ∀ cls d H' al', Stp X.K X.mg H al T L H' al' T L' → ExR X.mg (mask H' (al' ++ T)) c f cls d → Wx cls d σ H'
  | .stuck => False
abbrev RV (X : Cx) : Hp → List Addr → V → Va → Prop := Rp X.K X.mg
abbrev RVs (X : Cx) : Hp → List Addr → List V → List Va → Prop := Rps X.K X.mg
def RB : Hp → List Addr → Bool → Bool → Prop := fun _ _ b a => b = a
def RO : Hp → List Addr → Option Int → Option Int → Prop := fun _ _ b a => b = a
def Rdg (X : Cx) (Wx : WX) {α β : Type} (R : Hp → List Addr → β → α → Prop) (f : En → LH → Res α) : St → Hp → (β → Hp → Prop) → Prop :=
  fun σ H Q => ∃ env L al T, Conf X.K X.mg σ H env L al T ∧ GPost X Wx σ H al T L R (f env L) Q
def SE (X : Cx) (Wx : WX) (e : Expr) (f : EF) : Prop := PE X e (Rdg X Wx (RV X) f)
def ST (X : Cx) (Wx : WX) (e : Expr) (f : En → LH → Res Bool) : Prop := PT X e (Rdg X Wx RB f)
def SW (X : Cx) (Wx : WX) (e : Expr) (f : En → LH → Res Bool) : Prop := PW X e (Rdg X Wx RB f)
def SA (X : Cx) (Wx : WX) (es : List Expr) (f : En → LH → Res (List Va)) : Prop := PA X es (Rdg X Wx (RVs X) f)
theorem PE.imp {X : Cx} {e : Expr} {t t' : TE} (h : PE X e t) (k : ∀ σ H Q, t' σ H Q → t σ H Q) : PE X e t' := ⟨fun pins s σ H Q I q => h.run pins s σ H Q I (k σ H Q q)⟩
theorem PT.imp {X : Cx} {e : Expr} {t t' : TT} (h : PT X e t) (k : ∀ σ H Q, t' σ H Q → t σ H Q) : PT X e t' := ⟨fun pins s σ H Q I q => h.run pins s σ H Q I (k σ H Q q)⟩
theorem PW.imp {X : Cx} {e : Expr} {t t' : TT} (h : PW X e t) (k : ∀ σ H Q, t' σ H Q → t σ H Q) : PW X e t' := ⟨fun w pins s σ H Q I q => h.run w pins s σ H Q I (k σ H Q q)⟩
theorem PA.imp {X : Cx} {e : List Expr} {t t' : TA} (h : PA X e t) (k : ∀ σ H Q, t' σ H Q → t σ H Q) : PA X e t' := ⟨fun pos pins s σ H Q I q => h.run pos pins s σ H Q I (k σ H Q q)⟩
theorem PS.imp {X : Cx} {e : Stmt} {t t' : TS} (h : PS X e t) (k : ∀ D σ H, t' D σ H → t D σ H) : PS X e t' := ⟨fun pins s σ H D I q => h.run pins s σ H D I (k D σ H q)⟩
theorem PSs.imp {X : Cx} {e : List Stmt} {t t' : TS} (h : PSs X e t) (k : ∀ D σ H, t' D σ H → t D σ H) : PSs X e t' := ⟨fun pins s σ H D I q => h.run pins s σ H D I (k D σ H q)⟩

section
variable {X : Cx} {Wx : WX} {σ : St} {H H1 : Hp} {al al1 T : List Addr} {L L1 : LH} {α β γ δ : Type} {R : Hp → List Addr → β → α → Prop} {S : Hp → List Addr → δ → γ → Prop}
theorem GPost.on (hl : al.length = L.length) (s : Stp X.K X.mg H al T L H1 al1 T L1) {r : Res α} {Q : β → Hp → Prop} (h : GPost X Wx σ H al T L R r Q) : GPost X Wx σ H1 al1 T L1 R r Q := by
  cases r with
  | ok a L' => exact fun b H' al' t q => h b H' al' (Stp.trans hl s t) q
  | exc c f L' => exact fun cls d H' al' t q => h cls d H' al' (Stp.trans hl s t) q
  | stuck => exact h
theorem gbind {f : Res α} {k : α → LH → Res γ} {Q : δ → Hp → Prop} (hl : al.length = L.length) (h : GPost X Wx σ H al T L S (f.bind k) Q) :
    GPost X Wx σ H al T L R f (fun b H1 => ∃ a L1 al1, Stp X.K X.mg H al T L H1 al1 T L1 ∧ R (mask H1 (al1 ++ T)) al1 b a ∧ GPost X Wx σ H1 al1 T L1 S (k a L1) Q) := by
  cases f with
  | ok a L' => exact fun b H' al' s q => ⟨a, L', al', s, q, GPost.on hl s h⟩
  | exc c f L' => exact h
  | stuck => exact h
theorem rbind {env : En} {f : En → LH → Res α} {k : α → LH → Res γ} {Q : δ → Hp → Prop} (c : Conf X.K X.mg σ H env L al T) (h : GPost X Wx σ H al T L S ((f env L).bind k) Q) :
    Rdg X Wx R f σ H (fun b H1 => ∃ a L1 al1, Conf X.K X.mg σ H1 env L1 al1 T ∧ Stp X.K X.mg H al T L H1 al1 T L1 ∧ R (mask H1 (al1 ++ T)) al1 b a ∧ GPost X Wx σ H1 al1 T L1 S (k a L1) Q) := by
  refine ⟨env, L, al, T, c, ?_⟩
  have g := gbind (R := R) c.rel.len h
  revert g
  generalize f env L = r
  intro g
  cases r with
  | ok a L' => exact fun b H' al' s q => let ⟨a, L1, al1, s1, q1, g1⟩ := g b H' al' s q; ⟨a, L1, al1, c.stp s1, s1, q1, g1⟩
  | exc c f L' => exact g
  | stuck => exact g
theorem gok (r : Rel X.K X.mg H al T L) {a : α} {b : β} {Q : β → Hp → Prop} (h : GPost X Wx σ H al T L R (.ok a L) Q) (q : R (mask H (al ++ T)) al b a) : Q b H := h b H al (Stp.refl r) q

def eVar (i : Nat) : EF := fun env L => match env[i]? with
  | some (some w) => .ok w L
  | _ => .stuck
theorem se_var {i : Nat} {x : Str} {pos : Pos} (hN : X.N[i]? = some x) (hv : Vis X.env.scope x) (hd : (x == ("__debug__" : Str)) = false := by decide) (hcd : (x == ("__classdict__" : Str)) = false := by decide) : SE X Wx (.Name x pos) (eVar i) := by
  refine PE.imp (pe_var hN hv hd hcd) ?_
  rintro σ H Q ⟨env, L, al, T, c, h⟩
  unfold eVar at h
  cases e : env[i]? with
  | none => rw [e] at h; exact h.elim
  | some o =>
    cases o with
    | none => rw [e] at h; exact h.elim
    | some w =>
      rw [e] at h
      obtain ⟨v, h1, h2⟩ := c.slot i w e
      exact ⟨v, h1, gok c.rel h h2⟩
def eC (x : PyData) : EF := fun _ L => .ok (.d x) L
theorem se_int {i : Int} {j : Nat} {pos : Pos} : SE X Wx (.Constant (.int i) j pos) (eC (.int i)) := PE.imp pe_int fun σ H Q ⟨env, L, al, T, c, h⟩ => gok c.rel h (.d (.int i))
theorem se_bl {b : Bool} {j : Nat} {pos : Pos} : SE X Wx (.Constant (.bool b) j pos) (eC (.bool b)) := PE.imp pe_bl fun σ H Q ⟨env, L, al, T, c, h⟩ => gok c.rel h (.d (.bl b))
theorem se_non {j : Nat} {pos : Pos} : SE X Wx (.Constant .none j pos) (eC .none) := PE.imp pe_non fun σ H Q ⟨env, L, al, T, c, h⟩ => gok c.rel h (.d .non)
theorem se_str {x : Str} {j : Nat} {pos : Pos} : SE X Wx (.Constant (.str x) j pos) (eC (.str x)) := PE.imp pe_str fun σ H Q ⟨env, L, al, T, c, h⟩ => gok c.rel h (.d (.str x))
theorem se_globI {x : Str} {i : Int} {t : Tok} {pos : Pos} (hg : Gl X x) (hm : X.mg x = some (.int i t)) (hd : (x == ("__debug__" : Str)) = false := by decide) : SE X Wx (.Name x pos) (eC (.int i)) :=
  PE.imp (pe_glob (v := .int i) hg hm ⟨t, rfl⟩ hd) fun σ H Q ⟨env, L, al, T, c, h⟩ => gok c.rel h (.d (.int i))
theorem se_globS {x : Str} {i : Str} {t : Tok} {pos : Pos} (hg : Gl X x) (hm : X.mg x = some (.str i t)) (hd : (x == ("__debug__" : Str)) = false := by decide) : SE X Wx (.Name x pos) (eC (.str i)) :=
  PE.imp (pe_glob (v := .str i) hg hm ⟨t, rfl⟩ hd) fun σ H Q ⟨env, L, al, T, c, h⟩ => gok c.rel h (.d (.str i))

abbrev Op2 := Va → Va → LH → Res Va
def Ok2 (X : Cx) (r : R2) (g : Op2) : Prop := ∀ (Wx : WX) (σ : St) (H : Hp) (al T : List Addr) (L : LH) (x y : V) (w u : Va) (Q : VK), Rel X.K X.mg H al T L → RV X (mask H (al ++ T)) al x w → RV X (mask H (al ++ T)) al y u →
  GPost X Wx σ H al T L (RV X) (g w u L) Q → r x y H Q
def eOp (g : Op2) (a b : EF) : EF := fun env L => (a env L).bind fun w L1 => (b env L1).bind fun u L2 => g w u L2
variable {a b c : Expr} {fa fb fc : EF} {pos : Pos}
theorem op_core {g : Op2} {r : R2} (o : Ok2 X r g) {σ : St} {H : Hp} {Q : VK} (h : Rdg X Wx (RV X) (eOp g fa fb) σ H Q) : tOp r (Rdg X Wx (RV X) fa) (Rdg X Wx (RV X) fb) σ H Q := by
  obtain ⟨env, L, al, T, c, h⟩ := h
  obtain ⟨env', L', al', T', c', h'⟩ := rbind (R := RV X) c h
  refine ⟨env', L', al', T', c', ?_⟩
  revert h'
  generalize fa env' L' = r1
  intro h'
  cases r1 with
  | stuck => exact h'
  | exc c f L1 => exact h'
  | ok w L1 =>
    intro v H1 al1 s1 q1
    obtain ⟨w2, L2, al2, c2, s2, q2, h2⟩ := h' v H1 al1 s1 q1
    obtain ⟨env3, L3, al3, T3, c3, h3⟩ := rbind (R := RV X) c2 h2
    refine ⟨env3, L3, al3, T3, c3, ?_⟩
    revert h3
    generalize fb env3 L3 = r2
    intro h3
    cases r2 with
    | stuck => exact h3
    | exc c f L4 => exact h3
    | ok u L4 =>
      intro v2 H4 al4 s4 q4
      obtain ⟨u5, L5, al5, c5, s5, q5, h5⟩ := h3 v2 H4 al4 s4 q4
      exact o Wx σ H4 al5 T L5 v v2 w2 u5 Q c5.rel (s5.rp q2) q5 h5
theorem se_op {op : Operator} {r : R2} {g : Op2} (ho : OpR X (binaryOp op) r) (o : Ok2 X r g) (ha : SE X Wx a fa) (hb : SE X Wx b fb) : SE X Wx (.BinOp a op b pos) (eOp g fa fb) :=
  PE.imp (pe_op ho ha hb) fun _ _ _ h => op_core o h
theorem se_cmp {op : CmpOp} {r : R2} {g : Op2} (ho : OpR X (compareOp op) r) (o : Ok2 X r g) (ha : SE X Wx a fa) (hb : SE X Wx b fb) (hm : behindInMarks op b = false) : SE X Wx (.Compare a [op] [b] pos) (eOp g fa fb) :=
  PE.imp (pe_cmpR ho ha hb hm) fun _ _ _ h => op_core o h
theorem Ok2.or {r r' : R2} {g : Op2} (h : ∀ (Wx : WX) (σ : St) (H : Hp) (al T : List Addr) (L : LH) (x y : V) (w u : Va) (Q : VK), Rel X.K X.mg H al T L → RV X (mask H (al ++ T)) al x w → RV X (mask H (al ++ T)) al y u →
  GPost X Wx σ H al T L (RV X) (g w u L) Q → r x y H Q ∨ r' x y H Q) : Ok2 X (fun x y H Q => r x y H Q ∨ r' x y H Q) g := h

def tVal (f : EF) : En → LH → Res Bool := fun env L => (f env L).bind fun w L1 => match w with
  | .d (.bool b) => .ok b L1
  | _ => .stuck
theorem val_core {f : EF} {σ : St} {H : Hp} {Q : Bool → Hp → Prop} (h : Rdg X Wx RB (tVal f) σ H Q) : tB (Rdg X Wx (RV X) f) σ H Q := by
  obtain ⟨env, L, al, T, c, h⟩ := h
  obtain ⟨env', L', al', T', c', h'⟩ := rbind (R := RV X) c h
  refine ⟨env', L', al', T', c', ?_⟩
  revert h'
  generalize f env' L' = r1
  intro h'
  cases r1 with
  | stuck => exact h'
  | exc c f L1 => exact h'
  | ok w L1 =>
    intro v H1 al1 s1 q1
    obtain ⟨w2, L2, al2, c2, s2, q2, h2⟩ := h' v H1 al1 s1 q1
    match w2, q2, h2 with
    | .d (.bool b), .d (.bl _), h2 => exact ⟨b, rfl, gok c2.rel h2 rfl⟩
    | .d .none, _, h2 => exact h2.elim
    | .d (.int _), _, h2 => exact h2.elim
    | .d (.str _), _, h2 => exact h2.elim
    | .d (.list _), _, h2 => exact h2.elim
    | .d (.tuple _), _, h2 => exact h2.elim
    | .d (.dict _), _, h2 => exact h2.elim
    | .loc _, _, h2 => exact h2.elim
    | .tup _, _, h2 => exact h2.elim
    | .dct _, _, h2 => exact h2.elim
    | .exc _ _, _, h2 => exact h2.elim
    | .scr _, _, h2 => exact h2.elim
theorem st_val (ha : SE X Wx a fa) (he : ∀ whole, isTrue a X.env whole = (do let v ← whole; standAt a.pos; holding [v] (truthy v)) := by intro _; rfl) : ST X Wx a (tVal fa) :=
  PT.imp (pt_val ha he) fun _ _ _ h => val_core h
theorem st_cmp {op : CmpOp} {r : R2} {g : Op2} (ho : OpR X (compareOp op) r) (o : Ok2 X r g) (ha : SE X Wx a fa) (hb : SE X Wx b fb) (hm : behindInMarks op b = false) : ST X Wx (.Compare a [op] [b] pos) (tVal (eOp g fa fb)) :=
  PT.imp (pt_cmpR ho ha hb hm) fun σ H Q h => by
    have := val_core h
    obtain ⟨env, L, al, T, c, k⟩ := this
    exact op_core o ⟨env, L, al, T, c, k⟩
variable {ta tb : En → LH → Res Bool} {rest : List Expr}
def tAndF (f g : En → LH → Res Bool) : En → LH → Res Bool := fun env L => (f env L).bind fun b L1 => if b then g env L1 else .ok false L1
def tOrF (f g : En → LH → Res Bool) : En → LH → Res Bool := fun env L => (f env L).bind fun b L1 => if b then .ok true L1 else g env L1
def tNotF (f : En → LH → Res Bool) : En → LH → Res Bool := fun env L => (f env L).bind fun b L1 => .ok (!b) L1
theorem two_core {f : En → LH → Res Bool} {k : Bool → LH → Res α} {σ : St} {H : Hp} {Q : β → Hp → Prop} {Q' : Bool → Hp → Prop} {env : En} {L : LH} {al T : List Addr} (c : Conf X.K X.mg σ H env L al T)
    (h : GPost X Wx σ H al T L R ((f env L).bind k) Q) (hk : ∀ b H1 L1 al1, Conf X.K X.mg σ H1 env L1 al1 T → GPost X Wx σ H1 al1 T L1 R (k b L1) Q → Q' b H1) : Rdg X Wx RB f σ H Q' := by
  refine ⟨env, L, al, T, c, ?_⟩
  have g := gbind (R := RB) c.rel.len h
  revert g
  generalize f env L = r
  intro g
  cases r with
  | stuck => exact g
  | exc c f L1 => exact g
  | ok b L1 =>
    intro b' H1 al1 s1 q1
    obtain ⟨a, L2, al2, s2, q2, g2⟩ := g b' H1 al1 s1 q1
    cases (show b' = a from q2)
    exact hk b' H1 L2 al2 (c.stp s2) g2
theorem sw_and1 (ha : ST X Wx a ta) : SW X Wx (.BoolOp .And [a] pos) ta := pw_and1 ha
theorem sw_or1 (ha : ST X Wx a ta) : SW X Wx (.BoolOp .Or [a] pos) ta := pw_or1 ha
theorem sw_and (ha : ST X Wx a ta) (hb : SW X Wx (.BoolOp .And (b :: rest) pos) tb) : SW X Wx (.BoolOp .And (a :: b :: rest) pos) (tAndF ta tb) :=
  PW.imp (pw_and ha hb) fun σ H Q ⟨env, L, al, T, c, h⟩ => two_core c h fun b H1 L1 al1 c1 g => by
    cases b with
    | true => exact ⟨env, L1, al1, T, c1, g⟩
    | false => exact gok c1.rel g rfl
theorem sw_or (ha : ST X Wx a ta) (hb : SW X Wx (.BoolOp .Or (b :: rest) pos) tb) : SW X Wx (.BoolOp .Or (a :: b :: rest) pos) (tOrF ta tb) :=
  PW.imp (pw_or ha hb) fun σ H Q ⟨env, L, al, T, c, h⟩ => two_core c h fun b H1 L1 al1 c1 g => by
    cases b with
    | false => exact ⟨env, L1, al1, T, c1, g⟩
    | true => exact gok c1.rel g rfl
theorem st_w (h : SW X Wx a ta) : ST X Wx a ta := PW.pt h
theorem st_not (ha : ST X Wx a ta) : ST X Wx (.UnaryOp .Not a pos) (tNotF ta) :=
  PT.imp (pt_not ha) fun σ H Q ⟨env, L, al, T, c, h⟩ => two_core c h fun b H1 L1 al1 c1 g => gok c1.rel g rfl
def eIf (t : En → LH → Res Bool) (f g : EF) : EF := fun env L => (t env L).bind fun b L1 => if b then f env L1 else g env L1
theorem se_ifExp (hc : ST X Wx c tb) (ha : SE X Wx a fa) (hb : SE X Wx b fb) : SE X Wx (.IfExp c a b pos) (eIf tb fa fb) :=
  PE.imp (pe_ifExp hc ha hb) fun σ H Q ⟨env, L, al, T, c, h⟩ => two_core c h fun b H1 L1 al1 c1 g => by
    cases b with
    | false => exact ⟨env, L1, al1, T, c1, g⟩
    | true => exact ⟨env, L1, al1, T, c1, g⟩
def eAnd (f g : EF) : EF := fun env L => (tVal f env L).bind fun b L1 => if b then g env L1 else .ok (.d (.bool false)) L1
def eOr (f g : EF) : EF := fun env L => (tVal f env L).bind fun b L1 => if b then .ok (.d (.bool true)) L1 else g env L1
def eNot (f : EF) : EF := fun env L => (tVal f env L).bind fun b L1 => .ok (.d (.bool (!b))) L1
theorem se_one {op : BoolOp} (h : SE X Wx a fa) : SE X Wx (.BoolOp op [a] pos) fa := pe_one h
theorem valc {f : EF} {k : Bool → LH → Res α} {σ : St} {H : Hp} {Q : β → Hp → Prop} {Q' : Bool → Hp → Prop} {env : En} {L : LH} {al T : List Addr} (c : Conf X.K X.mg σ H env L al T)
    (h : GPost X Wx σ H al T L R ((tVal f env L).bind k) Q) (hk : ∀ b H1 L1 al1, Conf X.K X.mg σ H1 env L1 al1 T → GPost X Wx σ H1 al1 T L1 R (k b L1) Q → Q' b H1) : tB (Rdg X Wx (RV X) f) σ H Q' := val_core (two_core c h hk)
theorem se_and (ha : SE X Wx a fa) (hb : SE X Wx (.BoolOp .And (b :: rest) pos) fb) : SE X Wx (.BoolOp .And (a :: b :: rest) pos) (eAnd fa fb) :=
  PE.imp (pe_and ha hb) fun σ H Q ⟨env, L, al, T, c, h⟩ => by
    obtain ⟨env', L', al', T', c', h'⟩ := valc (Q' := fun b H1 => if b = true then Rdg X Wx (RV X) fb σ H1 Q else Q (.bl false) H1) c h fun b H1 L1 al1 c1 g => by
      cases b with
      | true => exact ⟨env, L1, al1, T, c1, g⟩
      | false => exact gok c1.rel g (.d (.bl false))
    exact ⟨env', L', al', T', c', h'⟩
theorem se_not (ha : SE X Wx a fa) : SE X Wx (.UnaryOp .Not a pos) (eNot fa) :=
  PE.imp (pe_not ha) fun σ H Q ⟨env, L, al, T, c, h⟩ => by
    obtain ⟨env', L', al', T', c', h'⟩ := valc (Q' := fun b H1 => Q (.bl (!b)) H1) c h fun b H1 L1 al1 c1 g => gok c1.rel g (.d (.bl (!b)))
    exact ⟨env', L', al', T', c', h'⟩
def aNil : En → LH → Res (List Va) := fun _ L => .ok [] L
def aCons (f : EF) (g : En → LH → Res (List Va)) : En → LH → Res (List Va) := fun env L => (f env L).bind fun w L1 => (g env L1).bind fun ws L2 => .ok (w :: ws) L2
theorem sa_nil : SA X Wx [] aNil := PA.imp pa_nil fun σ H Q ⟨env, L, al, T, c, h⟩ => gok c.rel h .nil
theorem sa_cons {e : Expr} {es : List Expr} {fe : EF} {fs : En → LH → Res (List Va)} (ha : SE X Wx e fe) (hr : SA X Wx es fs) (hs : starEach (e :: es) X.env = (false, eval e X.env) :: starEach es X.env := by rfl) : SA X Wx (e :: es) (aCons fe fs) := by
  refine PA.imp (pa_cons ha hr hs) ?_
  rintro σ H Q ⟨env, L, al, T, c, h⟩
  obtain ⟨env', L', al', T', c', h'⟩ := rbind (R := RV X) c h
  refine ⟨env', L', al', T', c', ?_⟩
  revert h'
  generalize fe env' L' = r1
  intro h'
  cases r1 with
  | stuck => exact h'
  | exc c f L1 => exact h'
  | ok w L1 =>
    intro v H1 al1 s1 q1
    obtain ⟨w2, L2, al2, c2, s2, q2, h2⟩ := h' v H1 al1 s1 q1
    obtain ⟨env3, L3, al3, T3, c3, h3⟩ := rbind (R := RVs X) c2 h2
    refine ⟨env3, L3, al3, T3, c3, ?_⟩
    revert h3
    generalize fs env3 L3 = r2
    intro h3
    cases r2 with
    | stuck => exact h3
    | exc c f L4 => exact h3
    | ok u L4 =>
      intro v2 H4 al4 s4 q4
      obtain ⟨u5, L5, al5, c5, s5, q5, h5⟩ := h3 v2 H4 al4 s4 q4
      exact gok c5.rel h5 (.cons (s5.rp q2) q5)
end
end L2.HW
namespace L2.HW
open PySem PySem.Spec PyProof.Rows
theorem rseq {X : Cx} {Wx : WX} {σ : St} {H : Hp} {al T : List Addr} {L : LH} {α β γ δ : Type} {R : Hp → List Addr → β → α → Prop} {S : Hp → List Addr → δ → γ → Prop} {env : En} {f : En → LH → Res α} {k : α → LH → Res γ} {Q : δ → Hp → Prop} {Q' : β → Hp → Prop}
    (c : Conf X.K X.mg σ H env L al T) (h : GPost X Wx σ H al T L S ((f env L).bind k) Q)
    (hk : ∀ b H1 a L1 al1, Conf X.K X.mg σ H1 env L1 al1 T → Stp X.K X.mg H al T L H1 al1 T L1 → R (mask H1 (al1 ++ T)) al1 b a → GPost X Wx σ H1 al1 T L1 S (k a L1) Q → Q' b H1) : Rdg X Wx R f σ H Q' := by
  refine ⟨env, L, al, T, c, ?_⟩
  have g := gbind (R := R) c.rel.len h
  revert g
  generalize f env L = r
  intro g
  cases r with
  | stuck => exact g
  | exc c f L1 => exact g
  | ok b L1 =>
    intro b' H1 al1 s1 q1
    obtain ⟨a, L2, al2, s2, q2, g2⟩ := g b' H1 al1 s1 q1
    exact hk b' H1 a L2 al2 (c.stp s2) s2 q2 g2
section
variable {K : PySem.W.Frag} {mg : Str → Option Value} {H : Hp} {al T : List Addr} {L : LH} {p : Addr} {o : HO}
theorem mask_eq {H : Hp} {P P' : List Addr} (h : ∀ b, b ∈ P ↔ b ∈ P') : mask H P = mask H P' := by
  funext b
  unfold mask
  by_cases q : b ∈ P
  · rw [if_pos q, if_pos ((h b).mp q)]
  · rw [if_neg q, if_neg fun z => q ((h b).mpr z)]
theorem Rel.fresh (r : Rel K mg H al T L) (hp : H p = none) : p ∉ al ∧ p ∉ T := ⟨fun z => r.trk p (.inl z) hp, fun z => r.trk p (.inr z) hp⟩
theorem upd_of {b : Addr} {u : HO} (hp : H p = none) (e : H b = some u) : upd H p o b = some u := by
  rw [upd_ne (ne_of_none e hp)]; exact e
theorem mask_upd (hp : H p = none) (P : List Addr) : Le (mask H P) (mask (upd H p o) P) := fun b u e => by
  obtain ⟨n, e⟩ := of_mask e
  exact mask_of n (upd_of hp e)
theorem Rel.alloc (r : Rel K mg H al T L) (hp : H p = none) : Stp K mg H al T L (upd H p o) al T L := by
  refine ⟨⟨r.len, r.nd, r.dis, fun a h => ?_, fun n ob e => ?_⟩, ⟨[], by simp, fun _ z => nomatch z⟩, ⟨[], by simp, fun _ z => nomatch z⟩, fun b u e _ => upd_of hp e, fun b e => ?_, fun _ e => e, fun _ ob e => ⟨ob, e⟩⟩
  · have := r.trk a h
    intro z
    apply this
    cases q : H a with
    | none => rfl
    | some u => rw [upd_of hp q] at z; cases z
  · obtain ⟨a, e1, q⟩ := r.cell n ob e
    exact ⟨a, e1, ObR.le (mask_upd hp _) (ALe.refl _) (fun _ z => upd_of hp z) q⟩
  · intro z
    apply e
    cases q : H b with
    | none => rfl
    | some u => rw [upd_of hp q] at z; cases z
theorem Rel.allocT (r : Rel K mg H al T L) (hp : H p = none) : Stp K mg H al T L (upd H p o) al (p :: T) L := by
  have s := r.alloc (o := o) hp
  obtain ⟨n1, n2⟩ := r.fresh hp
  have m : Le (mask H (al ++ T)) (mask (upd H p o) (al ++ (p :: T))) := fun b u e => by
    obtain ⟨n, e⟩ := of_mask e
    refine mask_of (fun z => ?_) (upd_of hp e)
    simp only [List.mem_append, List.mem_cons] at z n
    rcases z with z | z | z
    · exact n (.inl z)
    · rw [z, hp] at e; cases e
    · exact n (.inr z)
  refine ⟨⟨r.len, r.nd, fun a h z => ?_, fun a h => ?_, fun n ob e => ?_⟩, s.ext, ⟨[p], rfl, fun b z => ?_⟩, s.frame, s.stay, s.lck, s.alv⟩
  · rcases List.mem_cons.mp z with z | z
    · exact n1 (z ▸ h)
    · exact r.dis a h z
  · rcases h with h | h
    · exact s.rel.trk a (.inl h)
    · rcases List.mem_cons.mp h with z | z
      · rw [z, upd_same]; simp
      · exact s.rel.trk a (.inr z)
  · obtain ⟨a, e1, q⟩ := r.cell n ob e
    exact ⟨a, e1, ObR.le m (ALe.refl _) (fun _ z => upd_of hp z) q⟩
  · have : b = p := by simpa using z
    rw [this]; exact hp
theorem Stp.cell {H' : Hp} {al' : List Addr} {L' : LH} {a : Addr} {ob : Ob} (r0 : Rel K mg H al T L) (ha : H a = none) (s : Stp K mg H al T L H' al' (a :: T) L') (q : ObR K mg (mask H' (al' ++ (a :: T))) al' H' a ob) :
    Stp K mg H al T L H' (al' ++ [a]) T (L' ++ [some ob]) := by
  have r := s.rel
  have m : mask H' (al' ++ (a :: T)) = mask H' ((al' ++ [a]) ++ T) := mask_eq fun b => by simp [or_assoc]
  have na : a ∉ al' := fun z => r.dis a z List.mem_cons_self
  obtain ⟨be, e1, f1⟩ := s.ext
  have hL : L.length ≤ L'.length ∨ al.length ≠ L.length := by
    have := r.len
    rw [e1, List.length_append] at this
    by_cases q : al.length = L.length
    · left; omega
    · exact .inr q
  have keep : ∀ (n : Nat) (c : Option Ob), L'[n]? = some c → (L' ++ [some ob])[n]? = some c := fun n c e => by
    obtain ⟨h, _⟩ := List.getElem?_eq_some_iff.mp e
    rw [List.getElem?_append_left h]; exact e
  refine ⟨⟨by simp [r.len], ?_, fun b h z => ?_, fun b h => ?_, fun n c e => ?_⟩, ⟨be ++ [a], by rw [e1, List.append_assoc], fun b h => ?_⟩, ⟨[], by simp, fun _ z => nomatch z⟩, s.frame, s.stay, fun n e => keep _ _ (s.lck n e), fun n c e => ?_⟩
  · rw [List.nodup_append]
    exact ⟨r.nd, by simp, fun x hx y hy => by have : y = a := by simpa using hy
                                              rw [this]; rintro rfl; exact na hx⟩
  · rcases List.mem_append.mp h with h | h
    · exact r.dis b h (List.mem_cons_of_mem _ z)
    · have : b = a := by simpa using h
      subst this
      exact (r0.fresh ha).2 z
  · rcases h with h | h
    · rcases List.mem_append.mp h with h | h
      · exact r.trk b (.inl h)
      · have : b = a := by simpa using h
        rw [this]; exact r.trk a (.inr List.mem_cons_self)
    · exact r.trk b (.inr (List.mem_cons_of_mem _ h))
  · rw [← m]
    by_cases hn : n < L'.length
    · rw [List.getElem?_append_left hn] at e
      obtain ⟨b, e2, q2⟩ := r.cell n c e
      exact ⟨b, by rw [List.getElem?_append_left (by rw [r.len]; exact hn)]; exact e2, ObR.le (Le.refl _) (ALe.app _ _) (fun _ z => z) q2⟩
    · rw [List.getElem?_append_right (by omega)] at e
      have h0 : n - L'.length = 0 := by
        by_cases z : n - L'.length = 0
        · exact z
        · rw [List.getElem?_eq_none (by simp; omega)] at e; cases e
      rw [h0] at e
      simp at e
      subst e
      refine ⟨a, by rw [List.getElem?_append_right (by rw [r.len]; omega), r.len, h0]; rfl, ObR.le (Le.refl _) (ALe.app _ _) (fun _ z => z) q⟩
  · rcases List.mem_append.mp h with h | h
    · exact f1 b h
    · have : b = a := by simpa using h
      rw [this]; exact ha
  · obtain ⟨c', e'⟩ := s.alv n c e
    exact ⟨c', keep _ _ e'⟩
end
end L2.HW
namespace L2.HW
open PySem PySem.Spec PyProof.Rows

def datas : List Va → Option (List PyData)
  | [] => some []
  | .d x :: r => (datas r).map (x :: ·)
  | _ :: _ => none
@[simp] theorem datas_nil : datas [] = some [] := (rfl)
@[simp] theorem datas_cons (x : PyData) (r : List Va) : datas (.d x :: r) = (datas r).map (x :: ·) := (rfl)
@[simp] theorem datas_map (xs : List PyData) : datas (xs.map Va.d) = some xs := by
  induction xs with
  | nil => rfl
  | cons x r ih => rw [List.map_cons, datas_cons, ih]; rfl
@[simp] theorem datas_app (xs : List PyData) (ws : List Va) : datas (xs.map Va.d ++ ws) = (datas ws).map (xs ++ ·) := by
  induction xs with
  | nil => simp
  | cons x r ih => rw [List.map_cons, List.cons_append, datas_cons, ih]; cases datas ws <;> simp
theorem datas_eq : ∀ {ws : List Va} {xs : List PyData}, datas ws = some xs → ws = xs.map Va.d
  | [], xs, h => by cases h; rfl
  | .d x :: r, xs, h => by
    rw [datas_cons] at h
    cases e : datas r with
    | none => rw [e] at h; cases h
    | some ys => rw [e] at h; cases h; rw [datas_eq e]; rfl
  | .loc _ :: _, _, h => by cases h
  | .tup _ :: _, _, h => by cases h
  | .dct _ :: _, _, h => by cases h
  | .exc _ _ :: _, _, h => by cases h
  | .scr _ :: _, _, h => by cases h
def Va.data (L : LH) : Va → Option PyData
  | .d x => some x
  | .loc n => match L[n]? with
    | some (some (.lst ws)) => (datas ws).map .list
    | _ => none
  | _ => none
@[simp] theorem data_d (L : LH) (x : PyData) : (Va.d x).data L = some x := (rfl)
def Va.seq (L : LH) : Va → Option (List Va)
  | .d (.list ds) => some (ds.map .d)
  | .d (.tuple ds) => some (ds.map .d)
  | .tup ws => some ws
  | .loc n => match L[n]? with
    | some (some (.lst ws)) => some ws
    | _ => none
  | .scr ns => some (ns.map fun i => .d (.int i))
  | _ => none
@[simp] theorem seq_list (L : LH) (ds : List PyData) : (Va.d (.list ds)).seq L = some (ds.map .d) := (rfl)
@[simp] theorem seq_tuple (L : LH) (ds : List PyData) : (Va.d (.tuple ds)).seq L = some (ds.map .d) := (rfl)
@[simp] theorem seq_tup (L : LH) (ws : List Va) : (Va.tup ws).seq L = some ws := (rfl)
section
variable {K : PySem.W.Frag} {mg : Str → Option Value} {H M : Hp} {al T : List Addr} {L : LH}
theorem dq_all : ∀ {vs : List V} {xs : List PyData}, Rps K mg M al vs (xs.map Va.d) → DqAll M vs xs
  | _, [], .nil => .nil
  | _, _ :: _, .cons (.d q) r => .cons q (dq_all r)
theorem all_dq : ∀ {vs : List V} {xs : List PyData}, DqAll M vs xs → Rps K mg M al vs (xs.map Va.d)
  | _, _, .nil => .nil
  | _, _, .cons q r => .cons (.d q) (all_dq r)
theorem loc_lst (r : Rel K mg H al T L) {n : Nat} {v : V} {ws : List Va} (q : Rp K mg (mask H (al ++ T)) al v (.loc n)) (e : L[n]? = some (some (.lst ws))) : ∃ a vs, v = .ref a ∧ al[n]? = some a ∧ H a = some (.lst vs) ∧ Rps K mg (mask H (al ++ T)) al vs ws := by
  cases q with
  | loc e1 =>
    obtain ⟨a, e2, vs, e3, e4⟩ := r.cell n _ e
    rw [e1] at e2; cases e2
    exact ⟨_, vs, rfl, e1, e3, e4⟩
theorem data_ok (r : Rel K mg H al T L) {v : V} {w : Va} {x : PyData} (q : Rp K mg (mask H (al ++ T)) al v w) (e : w.data L = some x) : Dq H v x := by
  cases w with
  | d y => cases e; cases q with | d q => exact Dq.le (mask_le _ _) q
  | loc n =>
    simp only [Va.data] at e
    split at e
    · rename_i ws e1
      obtain ⟨a, vs, rfl, _, e3, e4⟩ := loc_lst r q e1
      cases e5 : datas ws with
      | none => rw [e5] at e; cases e
      | some xs =>
        rw [e5] at e
        cases e
        rw [datas_eq e5] at e4
        exact .lst e3 (DqAll.le (mask_le _ _) (dq_all e4))
    · cases e
  | tup _ => cases e
  | dct _ => cases e
  | exc _ _ => cases e
  | scr _ => cases e
theorem seq_ok (r : Rel K mg H al T L) {v : V} {w : Va} {ws : List Va} (q : Rp K mg (mask H (al ++ T)) al v w) (e : w.seq L = some ws) : ∃ a vs, v = .ref a ∧ (SqL K H a vs ∨ SqT K H a vs) ∧ Rps K mg (mask H (al ++ T)) al vs ws := by
  cases w with
  | d y =>
    cases q with
    | d q =>
      cases q with
      | lst e1 e2 => cases e; exact ⟨_, _, rfl, .inl (SqL.of (of_mask e1).2), all_dq e2⟩
      | tup e1 e2 => cases e; exact ⟨_, _, rfl, .inr (SqT.of (of_mask e1).2), all_dq e2⟩
      | non => cases e
      | bl _ => cases e
      | int _ => cases e
      | str _ => cases e
  | loc n =>
    simp only [Va.seq] at e
    split at e
    · rename_i us e1
      cases e
      obtain ⟨a, vs, rfl, _, e3, e4⟩ := loc_lst r q e1
      exact ⟨a, vs, rfl, .inl (SqL.of e3), e4⟩
    · cases e
  | tup us =>
    cases e
    cases q with
    | tup e1 e2 => exact ⟨_, _, rfl, .inr (SqT.of (of_mask e1).2), e2⟩
  | dct _ => cases e
  | exc _ _ => cases e
  | scr ns =>
    cases e
    cases q with
    | scr e1 =>
      refine ⟨_, _, rfl, .inl (SqL.le (mask_le _ _) e1), ?_⟩
      have go : ∀ ns : List Int, Rps K mg (mask H (al ++ T)) al (ns.map V.int) (ns.map fun i => Va.d (.int i)) := fun ns => by
        induction ns with
        | nil => exact .nil
        | cons n r ih => exact .cons (.d (.int n)) ih
      exact go ns
end

def FPost (X : Cx) (Wx : WX) (σ : St) (H : Hp) (al T : List Addr) (L : LH) (r : Res Ob) (Q : VK) : Prop :=
  match r with
  | .ok o L' => ∀ a H' al', H a = none → Stp X.K X.mg H al T L H' al' (a :: T) L' → ObR X.K X.mg (mask H' (al' ++ (a :: T))) al' H' a o → Q (.ref a) H'
  | .exc c f L' => ∀ cls d H' al', Stp X.K X.mg H al T L H' al' T L' → ExR X.mg (mask H' (al' ++ T)) c f cls d → Wx cls d σ H'
  | .stuck => False
def FRdg (X : Cx) (Wx : WX) (f : En → LH → Res Ob) : TE := fun σ H Q => ∃ env L al T, Conf X.K X.mg σ H env L al T ∧ FPost X Wx σ H al T L (f env L) Q
def SF (X : Cx) (Wx : WX) (e : Expr) (f : En → LH → Res Ob) : Prop := PE X e (FRdg X Wx f)
def Ob.va : Ob → Option Va
  | .lst ws => (datas ws).map fun xs => .d (.list xs)
  | .di kvs => (datas (kvs.map (·.2))).map fun xs => .dct ((kvs.map (·.1)).zip xs)
  | _ => none
@[simp] theorem va_lst (xs : List PyData) : (Ob.lst (xs.map Va.d)).va = some (.d (.list xs)) := by simp [Ob.va]
def eDat (g : En → LH → Res Ob) : EF := fun env L => (g env L).bind fun o L1 => match o.va with
  | some w => .ok w L1
  | none => .stuck
def eNew (g : En → LH → Res Ob) : EF := fun env L => (g env L).bind fun o L1 => .ok (.loc L1.length) (L1 ++ [some o])
theorem va_ok {K : PySem.W.Frag} {mg : Str → Option Value} {H : Hp} {al P : List Addr} {a : Addr} (na : a ∉ P) {o : Ob} {w : Va} {M : Hp} (hM : Le M (mask H P)) (q : ObR K mg M al H a o) (e : o.va = some w) : Rp K mg (mask H P) al (.ref a) w := by
  cases o with
  | lst ws =>
    obtain ⟨vs, h1, h2⟩ := q
    simp only [Ob.va] at e
    cases e5 : datas ws with
    | none => rw [e5] at e; cases e
    | some xs =>
      rw [e5] at e
      cases e
      rw [datas_eq e5] at h2
      exact .d (.lst (mask_of na h1) (DqAll.le hM (dq_all h2)))
  | di kvs =>
    obtain ⟨ks, h1, h2⟩ := q
    simp only [Ob.va] at e
    cases e5 : datas (kvs.map (·.2)) with
    | none => rw [e5] at e; cases e
    | some xs =>
      rw [e5] at e
      cases e
      refine .dct (mask_of na h1) ?_
      have go : ∀ {ks : List (Key × V)} {kvs : List (Int × Va)} {xs : List PyData}, KRp K mg M al ks kvs → datas (kvs.map (·.2)) = some xs → KDp (mask H P) ks ((kvs.map (·.1)).zip xs) := by
        intro ks kvs xs h
        induction h generalizing xs with
        | nil => intro _; exact .nil
        | @cons p q ps qs h1 _ ih =>
          intro e
          obtain ⟨k, w⟩ := q
          obtain ⟨pk, pv⟩ := p
          have e0 := datas_eq e
          match xs, e0, e with
          | x :: xs, e0, e =>
            simp only [List.map_cons, List.cons.injEq] at e0
            obtain ⟨e1, e2⟩ := e0
            obtain ⟨h3, h4⟩ := h1
            have h4' : Rp K mg M al pv w := h4
            rw [show w = Va.d x from e1] at h4'
            cases h4' with
            | d q => exact .cons ⟨h3, Dq.le hM q⟩ (ih (by rw [e2]; simp))
      exact go h2 e5
  | dt _ => cases e
  | ins _ _ => cases e
theorem se_dat {X : Cx} {Wx : WX} {e : Expr} {g : En → LH → Res Ob} (h : SF X Wx e g) : SE X Wx e (eDat g) := by
  refine PE.imp h ?_
  rintro σ H Q ⟨env, L, al, T, c, q⟩
  refine ⟨env, L, al, T, c, ?_⟩
  unfold eDat at q
  revert q
  generalize g env L = r
  intro q
  cases r with
  | stuck => exact q
  | exc c f L1 => exact q
  | ok o L1 =>
    intro a H' al' ha s ob
    simp only [Res.bind_ok] at q
    cases e : o.va with
    | none => rw [e] at q; exact q.elim
    | some w =>
      rw [e] at q
      have r := s.rel
      have na : a ∉ al' ++ T := fun z => by
        rcases List.mem_append.mp z with z | z
        · exact r.dis a z List.mem_cons_self
        · exact (c.rel.fresh ha).2 z
      have m : Le (mask H' (al' ++ (a :: T))) (mask H' (al' ++ T)) := fun b u e => by
        obtain ⟨n, e⟩ := of_mask e
        exact mask_of (fun z => n (by simp only [List.mem_append, List.mem_cons] at z ⊢; exact z.imp id .inr)) e
      exact q _ H' al' (Stp.drop (te := [a]) (fun b hb => by have : b = a := by simpa using hb
                                                             rw [this]; exact ha) s) (va_ok na m ob e)
theorem se_new {X : Cx} {Wx : WX} {e : Expr} {g : En → LH → Res Ob} (h : SF X Wx e g) : SE X Wx e (eNew g) := by
  refine PE.imp h ?_
  rintro σ H Q ⟨env, L, al, T, c, q⟩
  refine ⟨env, L, al, T, c, ?_⟩
  unfold eNew at q
  revert q
  generalize g env L = r
  intro q
  cases r with
  | stuck => exact q
  | exc c f L1 => exact q
  | ok o L1 =>
    intro a H' al' ha s ob
    refine q _ H' (al' ++ [a]) (Stp.cell c.rel ha s ob) (.loc ?_)
    rw [← s.rel.len, List.getElem?_append_right (Nat.le_refl _), Nat.sub_self]
    rfl
theorem gnew {X : Cx} {Wx : WX} {σ : St} {H : Hp} {al T : List Addr} {L : LH} {w : Va} {Q : VK} {o : HO} (r : Rel X.K X.mg H al T L) (h : GPost X Wx σ H al T L (RV X) (.ok w L) Q)
    (k : ∀ p, H p = none → (upd H p o) p = some o → Le (mask H (al ++ T)) (mask (upd H p o) (al ++ T)) → mask (upd H p o) (al ++ T) p = some o → RV X (mask (upd H p o) (al ++ T)) al (.ref p) w) : ∀ p, H p = none → Q (.ref p) (upd H p o) := fun p hp => by
  obtain ⟨n1, n2⟩ := r.fresh hp
  exact h _ _ al (r.alloc hp) (k p hp upd_same (mask_upd hp _) (mask_of (by simp [n1, n2]) upd_same))
theorem fnew {X : Cx} {Wx : WX} {σ : St} {H : Hp} {al T : List Addr} {L : LH} {ob : Ob} {Q : VK} {o : HO} (r : Rel X.K X.mg H al T L) (h : FPost X Wx σ H al T L (.ok ob L) Q)
    (k : ∀ p, H p = none → (upd H p o) p = some o → Le (mask H (al ++ T)) (mask (upd H p o) (al ++ (p :: T))) → ObR X.K X.mg (mask (upd H p o) (al ++ (p :: T))) al (upd H p o) p ob) : ∀ p, H p = none → Q (.ref p) (upd H p o) := fun p hp => by
  have s := r.allocT (o := o) hp
  exact h p _ al hp s (k p hp upd_same s.le)
end L2.HW
namespace L2.HW
open PySem PySem.Spec PyProof.Rows
section
variable {X : Cx}
def Va.items (L : LH) : Va → Option (List Va)
  | .d (.list ds) => some (ds.map .d)
  | .loc n => match L[n]? with
    | some (some (.lst ws)) => some ws
    | _ => none
  | _ => none
@[simp] theorem items_list (L : LH) (ds : List PyData) : (Va.d (.list ds)).items L = some (ds.map .d) := (rfl)
theorem items_ok {K : PySem.W.Frag} {mg : Str → Option Value} {H : Hp} {al T : List Addr} {L : LH} (r : Rel K mg H al T L) {v : V} {w : Va} {ws : List Va} (q : Rp K mg (mask H (al ++ T)) al v w) (e : w.items L = some ws) :
    ∃ a vs, v = .ref a ∧ H a = some (.lst vs) ∧ Rps K mg (mask H (al ++ T)) al vs ws := by
  cases w with
  | d y =>
    cases q with
    | d q =>
      cases q with
      | lst e1 e2 => cases e; exact ⟨_, _, rfl, (of_mask e1).2, all_dq e2⟩
      | tup e1 e2 => cases e
      | non => cases e
      | bl _ => cases e
      | int _ => cases e
      | str _ => cases e
  | loc n =>
    simp only [Va.items] at e
    split at e
    · rename_i us e1
      cases e
      obtain ⟨a, vs, rfl, _, e3, e4⟩ := loc_lst r q e1
      exact ⟨a, vs, rfl, e3, e4⟩
    · cases e
  | tup us => cases e
  | dct _ => cases e
  | exc _ _ => cases e
  | scr ns => cases e
def opAdd : Op2 := fun w u L => match w, u with
  | .d (.int i), .d (.int j) => .ok (.d (.int (i + j))) L
  | .d (.str a), .d (.str b) => if a.length + b.length ≤ sizeLine then .ok (.d (.str (a ++ b))) L else .stuck
  | .d (.tuple xs), .d (.tuple ys) => if xs.length + ys.length ≤ sizeLine then .ok (.d (.tuple (xs ++ ys))) L else .stuck
  | w, u => match w.items L, u.items L with
    | some ws, some us => if ws.length + us.length ≤ sizeLine then match datas ws, datas us with
      | some xs, some ys => .ok (.d (.list (xs ++ ys))) L
      | _, _ => .stuck
      else .stuck
    | _, _ => .stuck
theorem dq_app {M : Hp} : ∀ {vs us : List V} {xs ys : List PyData}, DqAll M vs xs → DqAll M us ys → DqAll M (vs ++ us) (xs ++ ys)
  | _, _, _, _, .nil, h => h
  | _, _, _, _, .cons a b, h => .cons a (dq_app b h)
theorem dq_int {M : Hp} {v : V} {i : Int} (h : Dq M v (.int i)) : v = .int i := by cases h; rfl
theorem dq_str {M : Hp} {v : V} {i : Str} (h : Dq M v (.str i)) : v = .str i := by cases h; rfl
theorem dq_bl {M : Hp} {v : V} {i : Bool} (h : Dq M v (.bool i)) : v = .bl i := by cases h; rfl
theorem dq_non {M : Hp} {v : V} (h : Dq M v .none) : v = .non := by cases h; rfl
theorem dq_tup {M : Hp} {v : V} {xs : List PyData} (h : Dq M v (.tuple xs)) : ∃ a vs, v = .ref a ∧ M a = some (.tup vs) ∧ DqAll M vs xs := by cases h with | tup e q => exact ⟨_, _, rfl, e, q⟩
theorem dq_lst {M : Hp} {v : V} {xs : List PyData} (h : Dq M v (.list xs)) : ∃ a vs, v = .ref a ∧ M a = some (.lst vs) ∧ DqAll M vs xs := by cases h with | lst e q => exact ⟨_, _, rfl, e, q⟩
theorem rp_d {K : PySem.W.Frag} {mg : Str → Option Value} {M : Hp} {al : List Addr} {v : V} {x : PyData} (h : Rp K mg M al v (.d x)) : Dq M v x := by cases h with | d q => exact q
abbrev rAddI : R2 := rI0 fun i j => .int (i + j)
abbrev rAddS : R2 := fun x y H Q => ∃ i j, x = .str i ∧ y = .str j ∧ i.length + j.length ≤ sizeLine ∧ Q (.str (i ++ j)) H
theorem or_add : OpR X (binaryOp .Add) (fun x y H Q => rAddI x y H Q ∨ rAddS x y H Q ∨ rCatA X.K x y H Q ∨ rCat x y H Q) := op_add.or (op_add_str.or (op_catA.or op_cat))
theorem ok_add : Ok2 X (fun x y H Q => rAddI x y H Q ∨ rAddS x y H Q ∨ rCatA X.K x y H Q ∨ rCat x y H Q) opAdd := by
  intro Wx σ H al T L x y w u Q r q1 q2 h
  unfold opAdd at h
  split at h
  · rename_i i j
    have e1 := dq_int (rp_d q1)
    have e2 := dq_int (rp_d q2)
    exact .inl ⟨i, j, e1, e2, gok r h (.d (.int _))⟩
  · rename_i a b
    have e1 := dq_str (rp_d q1)
    have e2 := dq_str (rp_d q2)
    split at h
    · exact .inr (.inl ⟨a, b, e1, e2, by assumption, gok r h (.d (.str _))⟩)
    · exact h.elim
  · rename_i xs ys
    obtain ⟨a, vs, rfl, e1, d1⟩ := dq_tup (rp_d q1)
    obtain ⟨b, us, rfl, e2, d2⟩ := dq_tup (rp_d q2)
    split at h
    · rename_i hl
      have l1 := d1.len
      have l2 := d2.len
      refine .inr (.inr (.inl ⟨a, b, vs, us, rfl, rfl, SqT.of (of_mask e1).2, SqT.of (of_mask e2).2, by omega, fun z => ?_, fun _ z => ?_, fun _ _ => gnew r h fun p hp e m e' => ?_⟩))
      · subst z
        cases d1
        exact gok r h (.d (.tup e2 d2))
      · subst z
        cases d2
        rw [List.append_nil] at h
        exact gok r h (.d (.tup e1 d1))
      · exact .d (.tup e' (dq_app (DqAll.le m d1) (DqAll.le m d2)))
    · exact h.elim
  · split at h
    · rename_i ws us e1 e2
      obtain ⟨a, vs, rfl, f1, d1⟩ := items_ok r q1 e1
      obtain ⟨b, us, rfl, f2, d2⟩ := items_ok r q2 e2
      have l1 := Paired.length d1
      have l2 := Paired.length d2
      split at h
      · split at h
        · rename_i xs ys e3 e4
          rw [datas_eq e3] at d1
          rw [datas_eq e4] at d2
          have d3 := dq_app (dq_all d1) (dq_all d2)
          refine .inr (.inr (.inr ⟨a, b, vs, _, rfl, rfl, f1, f2, by omega, gnew r h fun p hp e m e' => .d (.lst e' (DqAll.le m d3))⟩))
        · exact h.elim
      · exact h.elim
    · exact h.elim
def opI (g : Int → Int → Int) : Op2 := fun w u L => match w, u with
  | .d (.int i), .d (.int j) => .ok (.d (.int (g i j))) L
  | _, _ => .stuck
theorem ok_I {g : Int → Int → Int} : Ok2 X (rI0 fun i j => .int (g i j)) (opI g) := by
  intro Wx σ H al T L x y w u Q r q1 q2 h
  unfold opI at h
  split at h
  · exact ⟨_, _, dq_int (rp_d q1), dq_int (rp_d q2), gok r h (.d (.int _))⟩
  · exact h.elim
def opIC (C : Int → Int → Bool) (g : Int → Int → Int) : Op2 := fun w u L => match w, u with
  | .d (.int i), .d (.int j) => if C i j then .ok (.d (.int (g i j))) L else .stuck
  | _, _ => .stuck
theorem ok_IC {C : Int → Int → Bool} {D : Int → Int → Prop} {g : Int → Int → Int} (hC : ∀ i j, C i j = true → D i j) : Ok2 X (rI D fun i j => .int (g i j)) (opIC C g) := by
  intro Wx σ H al T L x y w u Q r q1 q2 h
  unfold opIC at h
  split at h
  · split at h
    · exact ⟨_, _, dq_int (rp_d q1), dq_int (rp_d q2), hC _ _ (by assumption), gok r h (.d (.int _))⟩
    · exact h.elim
  · exact h.elim
abbrev opSub : Op2 := opI fun i j => i - j
theorem ok_sub : Ok2 X (rI0 fun i j => .int (i - j)) opSub := ok_I
def mulC (i j : Int) : Bool := decide (i.natAbs.log2 + j.natAbs.log2 < 1000000)
def divC (_ j : Int) : Bool := decide (0 < j ∧ j.natAbs.log2 < 9000)
def modC (_ j : Int) : Bool := decide (0 < j)
def powC (i j : Int) : Bool := decide (0 ≤ j ∧ j ≤ 1000000 ∧ i.natAbs < 18446744073709551616)
abbrev opDiv : Op2 := opIC divC fun i j => i / j
theorem ok_div : Ok2 X (rI CDivW fun i j => .int (i / j)) opDiv := ok_IC fun i j h => (of_decide_eq_true h : 0 < j ∧ j.natAbs.log2 < 9000)
abbrev opMod : Op2 := opIC modC fun i j => i % j
theorem ok_mod : Ok2 X (rI (fun _ j => 0 < j) fun i j => .int (i % j)) opMod := ok_IC fun i j h => of_decide_eq_true h
abbrev opPow : Op2 := opIC powC fun i j => i ^ j.toNat
theorem ok_pow : Ok2 X (rI CPow fun i j => .int (i ^ j.toNat)) opPow := ok_IC fun i j h => by
  have := of_decide_eq_true h
  exact ⟨this.1, this.2.1, by rw [show (2 : Nat) ^ 64 = 18446744073709551616 from rfl]; exact this.2.2⟩
def rep {α : Type} (k : Nat) (xs : List α) : List α := (List.replicate k xs).flatten
def opMul : Op2 := fun w u L => match w, u with
  | .d (.int i), .d (.int j) => if mulC i j then .ok (.d (.int (i * j))) L else .stuck
  | .d (.tuple xs), .d (.int k) => if xs ≠ [] ∧ 2 ≤ k ∧ k ≤ 1000 ∧ xs.length ≤ 1000 then .ok (.d (.tuple (rep k.toNat xs))) L else .stuck
  | w, .d (.int k) => match w.items L with
    | some ws => if -(2 ^ 63) ≤ k ∧ k < 2 ^ 63 ∧ ws.length * k.toNat ≤ sizeLine then match datas ws with
      | some xs => .ok (.d (.list (rep k.toNat xs))) L
      | none => .stuck
      else .stuck
    | none => .stuck
  | _, _ => .stuck
theorem dq_rep {M : Hp} {vs : List V} {xs : List PyData} (h : DqAll M vs xs) : ∀ k : Nat, DqAll M (List.replicate k vs).flatten (List.replicate k xs).flatten
  | 0 => .nil
  | k + 1 => by rw [List.replicate_succ, List.replicate_succ, List.flatten_cons, List.flatten_cons]; exact dq_app h (dq_rep h k)
theorem or_mul : OpR X (binaryOp .Mult) (fun x y H Q => rI CMulW (fun i j => .int (i * j)) x y H Q ∨ rRepT X.K x y H Q ∨ rRep x y H Q) := op_mulW.or (op_repT.or op_rep)
theorem ok_mul : Ok2 X (fun x y H Q => rI CMulW (fun i j => .int (i * j)) x y H Q ∨ rRepT X.K x y H Q ∨ rRep x y H Q) opMul := by
  intro Wx σ H al T L x y w u Q r q1 q2 h
  unfold opMul at h
  split at h
  · split at h
    · rename_i hc
      exact .inl ⟨_, _, dq_int (rp_d q1), dq_int (rp_d q2), (of_decide_eq_true hc : _ < 1000000), gok r h (.d (.int _))⟩
    · exact h.elim
  · rename_i xs k
    obtain ⟨a, vs, rfl, e1, d1⟩ := dq_tup (rp_d q1)
    have e2 := dq_int (rp_d q2)
    split at h
    · rename_i hc
      have l1 := d1.len
      refine .inr (.inl ⟨a, k, vs, rfl, e2, SqT.of (of_mask e1).2, fun z => ?_, hc.2.1, hc.2.2.1, by omega, gnew r h fun p hp e m e' => .d (.tup e' (DqAll.le m (dq_rep d1 _)))⟩)
      subst z
      cases d1
      exact hc.1 rfl
    · exact h.elim
  · rename_i k _ _
    have e2 := dq_int (rp_d q2)
    split at h
    · rename_i ws e1
      obtain ⟨a, vs, rfl, f1, d1⟩ := items_ok r q1 e1
      have l1 := Paired.length d1
      split at h
      · rename_i hc
        split at h
        · rename_i xs e3
          rw [datas_eq e3] at d1
          exact .inr (.inr ⟨a, k, vs, rfl, e2, f1, hc.1, hc.2.1, by rw [l1]; exact hc.2.2, gnew r h fun p hp e m e' => .d (.lst e' (DqAll.le m (dq_rep (dq_all d1) _)))⟩)
        · exact h.elim
      · exact h.elim
    · exact h.elim
  · exact h.elim
def opC (g : Int → Int → Bool) : Op2 := fun w u L => match w, u with
  | .d (.int i), .d (.int j) => .ok (.d (.bool (g i j))) L
  | _, _ => .stuck
theorem ok_C {g : Int → Int → Bool} : Ok2 X (rI0 fun i j => .bl (g i j)) (opC g) := by
  intro Wx σ H al T L x y w u Q r q1 q2 h
  unfold opC at h
  split at h
  · exact ⟨_, _, dq_int (rp_d q1), dq_int (rp_d q2), gok r h (.d (.bl _))⟩
  · exact h.elim
abbrev opGt : Op2 := opC fun i j => decide (j < i)
abbrev opGe : Op2 := opC fun i j => decide (j ≤ i)
theorem ok_gt : Ok2 X (rI0 fun i j => .bl (decide (j < i))) opGt := ok_C
theorem ok_ge : Ok2 X (rI0 fun i j => .bl (decide (j ≤ i))) opGe := ok_C
def intsOf : List PyData → Option (List Int)
  | [] => some []
  | .int i :: r => (intsOf r).map (i :: ·)
  | _ :: _ => none
theorem intsOf_eq : ∀ {xs : List PyData} {ns : List Int}, intsOf xs = some ns → xs = ns.map PyData.int
  | [], ns, h => by cases h; rfl
  | .int x :: r, ns, h => by
    simp only [intsOf] at h
    cases e : intsOf r with
    | none => rw [e] at h; cases h
    | some ys => rw [e] at h; cases h; rw [intsOf_eq e]; rfl
  | .none :: _, _, h => by cases h
  | .bool _ :: _, _, h => by cases h
  | .str _ :: _, _, h => by cases h
  | .list _ :: _, _, h => by cases h
  | .tuple _ :: _, _, h => by cases h
  | .dict _ :: _, _, h => by cases h
@[simp] theorem intsOf_map (ns : List Int) : intsOf (ns.map PyData.int) = some ns := by
  induction ns with
  | nil => rfl
  | cons x r ih => simp only [List.map_cons, intsOf, ih]; rfl
theorem dq_ints {M : Hp} : ∀ {vs : List V} {ns : List Int}, DqAll M vs (ns.map PyData.int) → vs = ns.map V.int
  | _, [], .nil => rfl
  | _, _ :: _, .cons q r => by rw [dq_int q, dq_ints r]; rfl
def opLt : Op2 := fun w u L => match w, u with
  | .d (.int i), .d (.int j) => .ok (.d (.bool (decide (i < j)))) L
  | .d (.tuple xs), .d (.tuple ys) => match intsOf xs, intsOf ys with
    | some ns, some ms => .ok (.d (.bool (HT.lexLt ns ms))) L
    | _, _ => .stuck
  | _, _ => .stuck
theorem or_lt (hu : X.A.units < cLine) : OpR X (compareOp .Lt) (fun x y H Q => rI0 (fun i j => .bl (decide (i < j))) x y H Q ∨ rLtT X.K x y H Q) := op_lt.or (op_ltT hu)
theorem ok_lt : Ok2 X (fun x y H Q => rI0 (fun i j => .bl (decide (i < j))) x y H Q ∨ rLtT X.K x y H Q) opLt := by
  intro Wx σ H al T L x y w u Q r q1 q2 h
  unfold opLt at h
  split at h
  · exact .inl ⟨_, _, dq_int (rp_d q1), dq_int (rp_d q2), gok r h (.d (.bl _))⟩
  · split at h
    · rename_i ns ms e1 e2
      rw [intsOf_eq e1] at q1
      rw [intsOf_eq e2] at q2
      obtain ⟨a, vs, rfl, f1, d1⟩ := dq_tup (rp_d q1)
      obtain ⟨b, us, rfl, f2, d2⟩ := dq_tup (rp_d q2)
      have g1 := dq_ints d1
      have g2 := dq_ints d2
      subst g1
      subst g2
      exact .inr ⟨a, b, ns, ms, rfl, rfl, SqT.of (of_mask f1).2, SqT.of (of_mask f2).2, gok r h (.d (.bl _))⟩
    · exact h.elim
  · exact h.elim
def twoStr : PyData → PyData → Bool
  | .str _, .str _ => true
  | _, _ => false
def cmpOk (x y : PyData) : Bool := twoStr x y || (SeqAt.shaped x && SeqAt.shaped y)
theorem twoStr_eq {x y : PyData} (h : twoStr x y = true) : ∃ a b, x = .str a ∧ y = .str b := by
  cases x <;> cases y <;> first | exact ⟨_, _, rfl, rfl⟩ | (simp [twoStr] at h)
def opEq : Op2 := fun w u L => match w.data L, u.data L with
  | some x, some y => if cmpOk x y then .ok (.d (.bool (PyData.eqv x y))) L else .stuck
  | _, _ => .stuck
def opNe : Op2 := fun w u L => match w.data L, u.data L with
  | some x, some y => if cmpOk x y then .ok (.d (.bool (!PyData.eqv x y))) L else .stuck
  | _, _ => .stuck
abbrev rEqAny (X : Cx) : R2 := fun x y H Q => rEq x y H Q ∨ rEqD X.K x y H Q
abbrev rNeAny (X : Cx) : R2 := fun x y H Q => rNe x y H Q ∨ rNeD X.K x y H Q
theorem or_eq (hu : X.A.units + 64 < cLine) : OpR X (compareOp .Eq) (rEqAny X) := op_eq.or (op_eqD hu)
theorem or_ne (hu : X.A.units + 64 < cLine) : OpR X (compareOp .NotEq) (rNeAny X) := op_ne.or (op_neD hu)
theorem ok_eq : Ok2 X (rEqAny X) opEq := by
  intro Wx σ H al T L x y w u Q r q1 q2 h
  unfold opEq at h
  split at h
  · split at h
    · rename_i e1 e2 hc
      unfold cmpOk at hc
      rw [Bool.or_eq_true, Bool.and_eq_true] at hc
      rcases hc with hc | hc
      · obtain ⟨a, b, rfl, rfl⟩ := twoStr_eq hc
        have h1 := dq_str (data_ok r q1 e1)
        have h2 := dq_str (data_ok r q2 e2)
        subst h1 h2
        refine .inl ⟨rfl, gok r h ?_⟩
        have : decide (V.str a = V.str b) = PyData.eqv (.str a) (.str b) := by
          rw [Bool.eq_iff_iff]
          simp [PyData.eqv]
        rw [this]
        exact .d (.bl _)
      · exact .inr ⟨_, _, (data_ok r q1 e1).dp, (data_ok r q2 e2).dp, hc.1, hc.2, gok r h (.d (.bl _))⟩
    · exact h.elim
  · exact h.elim
theorem ok_ne : Ok2 X (rNeAny X) opNe := by
  intro Wx σ H al T L x y w u Q r q1 q2 h
  unfold opNe at h
  split at h
  · split at h
    · rename_i e1 e2 hc
      unfold cmpOk at hc
      rw [Bool.or_eq_true, Bool.and_eq_true] at hc
      rcases hc with hc | hc
      · obtain ⟨a, b, rfl, rfl⟩ := twoStr_eq hc
        have h1 := dq_str (data_ok r q1 e1)
        have h2 := dq_str (data_ok r q2 e2)
        subst h1 h2
        refine .inl ⟨rfl, gok r h ?_⟩
        have : (!decide (V.str a = V.str b)) = !PyData.eqv (.str a) (.str b) := by
          congr 1
          rw [Bool.eq_iff_iff]
          simp [PyData.eqv]
        rw [this]
        exact .d (.bl _)
      · exact .inr ⟨_, _, (data_ok r q1 e1).dp, (data_ok r q2 e2).dp, hc.1, hc.2, gok r h (.d (.bl _))⟩
    · exact h.elim
  · exact h.elim
def Va.isN : Va → Bool
  | .d .none => true
  | _ => false
def opIsN : Op2 := fun w u L => match u with
  | .d .none => .ok (.d (.bool w.isN)) L
  | _ => .stuck
def opNotN : Op2 := fun w u L => match u with
  | .d .none => .ok (.d (.bool (!w.isN))) L
  | _ => .stuck
theorem rp_non {K : PySem.W.Frag} {mg : Str → Option Value} {M : Hp} {al : List Addr} {v : V} {w : Va} (h : Rp K mg M al v w) : decide (v = .non) = w.isN := by
  cases h with
  | d q => cases q <;> simp [Va.isN]
  | loc _ => simp [Va.isN]
  | tup _ _ => simp [Va.isN]
  | dct _ _ => simp [Va.isN]
  | exc _ _ => simp [Va.isN]
  | scr _ => simp [Va.isN]
abbrev rIsNn : R2 := fun x y H Q => y = .non ∧ Q (.bl (decide (x = .non))) H
abbrev rNotNn : R2 := fun x y H Q => y = .non ∧ Q (.bl (!decide (x = .non))) H
theorem ok_isN : Ok2 X rIsNn opIsN := by
  intro Wx σ H al T L x y w u Q r q1 q2 h
  unfold opIsN at h
  split at h
  · refine ⟨dq_non (rp_d q2), ?_⟩
    rw [rp_non q1]
    exact gok r h (.d (.bl _))
  · exact h.elim
theorem ok_notN : Ok2 X rNotNn opNotN := by
  intro Wx σ H al T L x y w u Q r q1 q2 h
  unfold opNotN at h
  split at h
  · refine ⟨dq_non (rp_d q2), ?_⟩
    rw [rp_non q1]
    exact gok r h (.d (.bl _))
  · exact h.elim
def opIsB : Op2 := fun w u L => match w, u with
  | .d (.bool a), .d (.bool b) => .ok (.d (.bool (decide (a = b)))) L
  | _, _ => .stuck
def opNotB : Op2 := fun w u L => match w, u with
  | .d (.bool a), .d (.bool b) => .ok (.d (.bool (!decide (a = b)))) L
  | _, _ => .stuck
end
end L2.HW
namespace L2.HW
open PySem PySem.Spec PyProof.Rows
section
variable {X : Cx} {Wx : WX}
def mkTup (ws : List Va) : Va := match datas ws with
  | some xs => .d (.tuple xs)
  | none => .tup ws
@[simp] theorem mkTup_map (xs : List PyData) : mkTup (xs.map Va.d) = .d (.tuple xs) := by simp [mkTup]
@[simp] theorem mkTup_0 : mkTup [] = .d (.tuple []) := (rfl)
theorem rp_mkTup {K : PySem.W.Frag} {mg : Str → Option Value} {M : Hp} {al : List Addr} {a : Addr} {vs : List V} {ws : List Va} (e : M a = some (.tup vs)) (r : Rps K mg M al vs ws) : Rp K mg M al (.ref a) (mkTup ws) := by
  unfold mkTup
  split
  · rename_i xs h
    rw [datas_eq h] at r
    exact .d (.tup e (dq_all r))
  · exact .tup e r
def eTup (fs : En → LH → Res (List Va)) : EF := fun env L => (fs env L).bind fun ws L1 => if ws.length ≤ sizeLine then .ok (mkTup ws) L1 else .stuck
theorem se_tup {es : List Expr} {fs : En → LH → Res (List Va)} {k : Nat} {pos : Pos} (h : SA X Wx es fs) : SE X Wx (.Tuple es k pos) (eTup fs) := by
  refine PE.imp (pe_tup h) ?_
  rintro σ H Q ⟨env, L, al, T, c, q⟩
  refine rseq (R := RVs X) c q fun vs H1 ws L1 al1 c1 s1 r1 q1 => ?_
  split at q1
  · exact ⟨by rw [Paired.length r1]; assumption, gnew c1.rel q1 fun p hp e m e' => rp_mkTup e' (Rps.le m (ALe.refl _) r1)⟩
  · exact q1.elim
theorem fseq {σ : St} {H : Hp} {al T : List Addr} {L : LH} {α β : Type} {R : Hp → List Addr → β → α → Prop} {env : En} {f : En → LH → Res α} {k : α → LH → Res Ob} {Q : VK} {Q' : β → Hp → Prop}
    (c : Conf X.K X.mg σ H env L al T) (h : FPost X Wx σ H al T L ((f env L).bind k) Q)
    (hk : ∀ b H1 a L1 al1, Conf X.K X.mg σ H1 env L1 al1 T → Stp X.K X.mg H al T L H1 al1 T L1 → R (mask H1 (al1 ++ T)) al1 b a → FPost X Wx σ H1 al1 T L1 (k a L1) Q → Q' b H1) : Rdg X Wx R f σ H Q' := by
  refine ⟨env, L, al, T, c, ?_⟩
  revert h
  generalize f env L = r
  intro g
  cases r with
  | stuck => exact g
  | exc c f L1 => exact g
  | ok b L1 =>
    intro b' H1 al1 s1 q1
    refine hk b' H1 b L1 al1 (c.stp s1) s1 q1 ?_
    simp only [Res.bind_ok] at g
    revert g
    generalize k b L1 = r2
    intro g
    have back : ∀ x, H1 x = none → H x = none := fun x z => by
      cases e : H x with
      | none => rfl
      | some o => exact absurd z (s1.stay x (by rw [e]; simp))
    cases r2 with
    | stuck => exact g
    | exc c' f L2 => exact fun cls d H' al' t q => g cls d H' al' (Stp.trans c.rel.len s1 t) q
    | ok o L2 => exact fun a H' al' ha t q => g a H' al' (back a ha) (Stp.trans c.rel.len s1 t) q
def fLst (fs : En → LH → Res (List Va)) : En → LH → Res Ob := fun env L => (fs env L).bind fun ws L1 => if ws.length ≤ sizeLine then .ok (.lst ws) L1 else .stuck
theorem sf_lst {es : List Expr} {fs : En → LH → Res (List Va)} {pos : Pos} (h : SA X Wx es fs) : SF X Wx (.List es pos) (fLst fs) := by
  refine PE.imp (pe_lst h) ?_
  rintro σ H Q ⟨env, L, al, T, c, q⟩
  refine fseq (R := RVs X) c q fun vs H1 ws L1 al1 c1 s1 r1 q1 => ?_
  split at q1
  · exact ⟨by rw [Paired.length r1]; assumption, fnew c1.rel q1 fun p hp e m => ⟨vs, e, Rps.le m (ALe.refl _) r1⟩⟩
  · exact q1.elim
def aStar (f : EF) (g : En → LH → Res (List Va)) : En → LH → Res (List Va) := fun env L => (f env L).bind fun w L1 => match w.seq L1 with
  | some us => (g env L1).bind fun ws L2 => .ok (us ++ ws) L2
  | none => .stuck
theorem rps_app {K : PySem.W.Frag} {mg : Str → Option Value} {M : Hp} {al : List Addr} : ∀ {vs us : List V} {xs ys : List Va}, Rps K mg M al vs xs → Rps K mg M al us ys → Rps K mg M al (vs ++ us) (xs ++ ys)
  | _, _, _, _, .nil, h => h
  | _, _, _, _, .cons a b, h => .cons a (rps_app b h)
theorem sa_star {e : Expr} {p : Pos} {es : List Expr} {fe : EF} {fs : En → LH → Res (List Va)} (ha : SE X Wx e fe) (hr : SA X Wx es fs) (hs : starEach (.Starred e p :: es) X.env = (true, eval e X.env) :: starEach es X.env := by rfl) : SA X Wx (.Starred e p :: es) (aStar fe fs) := by
  refine PA.imp (StX.pa_star ha hr hs) ?_
  rintro σ H Q ⟨env, L, al, T, c, q⟩
  refine rseq (R := RV X) c q fun v H1 w L1 al1 c1 s1 r1 q1 => ?_
  split at q1
  · rename_i us e
    obtain ⟨a, vs, rfl, hq, r2⟩ := seq_ok c1.rel r1 e
    refine ⟨a, vs, rfl, hq.symm, rseq (R := RVs X) c1 q1 fun vs2 H2 ws L2 al2 c2 s2 r3 q2 => ?_⟩
    exact gok c2.rel q2 (rps_app (s2.rps r2) r3)
  · exact q1.elim

def alook {κ α : Type} [DecidableEq κ] (ks : List (κ × α)) (k : κ) : Option α := (ks.find? fun kv => decide (kv.1 = k)).map (·.2)
@[simp] theorem alook_nil {κ α : Type} [DecidableEq κ] (k : κ) : alook ([] : List (κ × α)) k = none := (rfl)
theorem alook_cons {κ α : Type} [DecidableEq κ] (k' : κ) (x : α) (ks : List (κ × α)) (k : κ) : alook ((k', x) :: ks) k = if k' = k then some x else alook ks k := by
  unfold alook
  rw [List.find?_cons]
  by_cases h : k' = k
  · simp [h]
  · simp [h]
def ORp {α : Type} (R : V → α → Prop) : Option V → Option α → Prop
  | some z, some x => R z x
  | none, none => True
  | _, _ => False
theorem look_pair {κ κ' α : Type} [DecidableEq κ] [DecidableEq κ'] {f : κ → κ'} (hf : ∀ a b, f a = f b → a = b) {R : V → α → Prop} {ks : List (κ' × V)} {as : List (κ × α)} (r : Paired (fun (p : κ' × V) (q : κ × α) => p.1 = f q.1 ∧ R p.2 q.2) ks as) (k : κ) : ORp R (valV ks (f k)) (alook as k) := by
  induction r with
  | nil => trivial
  | @cons p q ps qs h _ ih =>
    obtain ⟨pk, pv⟩ := p
    obtain ⟨qk, qv⟩ := q
    obtain ⟨h1, h2⟩ := h
    simp only at h1 h2
    subst h1
    rw [alook_cons]
    by_cases e : qk = k
    · subst e
      rw [if_pos rfl, valV_pos rfl]
      exact h2
    · rw [if_neg e, valV_neg (fun z => e (hf _ _ z))]
      exact ih
def Va.dget (L : LH) (w u : Va) : Option (Option Va) := match w, u with
  | .dct ks, .d (.int i) => some ((alook ks i).map Va.d)
  | .loc n, .d (.int i) => match L[n]? with
    | some (some (.di ks)) => some (alook ks i)
    | _ => none
  | .loc n, .d (.tuple xs) => match L[n]?, intsOf xs with
    | some (some (.dt ks)), some ns => some (alook ks ns)
    | _, _ => none
  | _, _ => none
theorem inl_inj (a b : Int) (h : (Sum.inl a : Key) = Sum.inl b) : a = b := by cases h; rfl
theorem map_inl_inj : ∀ (a b : List Int), a.map (Sum.inl : Int → Key) = b.map Sum.inl → a = b
  | [], [], _ => rfl
  | [], _ :: _, h => by cases h
  | _ :: _, [], h => by cases h
  | x :: a, y :: b, h => by
    simp only [List.map_cons, List.cons.injEq] at h
    rw [inl_inj _ _ h.1, map_inl_inj a b h.2]
theorem dget_ok {K : PySem.W.Frag} {mg : Str → Option Value} {H : Hp} {al T : List Addr} {L : LH} (r : Rel K mg H al T L) {v y : V} {w u : Va} {o : Option Va} (q : Rp K mg (mask H (al ++ T)) al v w) (q2 : Rp K mg (mask H (al ++ T)) al y u) (e : w.dget L u = some o) :
    ∃ a ov, v = .ref a ∧ DGet H a y ov ∧ ORp (Rp K mg (mask H (al ++ T)) al) ov o := by
  unfold Va.dget at e
  split at e
  · rename_i ks i
    cases e
    have hy := dq_int (rp_d q2)
    subst hy
    cases q with
    | @dct a kvs _ e1 e2 =>
      have l := look_pair (f := (Sum.inl : Int → Key)) inl_inj e2 i
      refine ⟨a, valV kvs (Sum.inl i), rfl, DGet.k (k := Sum.inl i) (of_mask e1).2, ?_⟩
      revert l
      cases alook ks i <;> cases valV kvs (Sum.inl i) <;> intro l
      · trivial
      · exact l
      · exact l
      · exact .d l
  · rename_i n i
    split at e
    · rename_i ks e1
      cases e
      have hy := dq_int (rp_d q2)
      subst hy
      cases q with
      | @loc _ a e2 =>
        obtain ⟨a', e3, kvs, e4, e5⟩ := r.cell n _ e1
        rw [e2] at e3; cases e3
        exact ⟨a, valV kvs (Sum.inl i), rfl, DGet.k (k := Sum.inl i) e4, look_pair (f := (Sum.inl : Int → Key)) inl_inj e5 i⟩
    · cases e
  · rename_i n xs
    split at e
    · rename_i ks ns e1 e0
      cases e
      rw [intsOf_eq e0] at q2
      obtain ⟨b, us, rfl, f1, d1⟩ := dq_tup (rp_d q2)
      have g1 := dq_ints d1
      subst g1
      cases q with
      | @loc _ a e2 =>
        obtain ⟨a', e3, kvs, e4, e5⟩ := r.cell n _ e1
        rw [e2] at e3; cases e3
        exact ⟨a, valV kvs (ns.map Sum.inl), rfl, DGet.t (k := ns.map Sum.inl) e4 (by rw [List.map_map]; exact (of_mask f1).2), look_pair (f := fun ns : List Int => ns.map (Sum.inl : Int → Key)) map_inl_inj e5 ns⟩
    · cases e
  · cases e
theorem atI_pair {K : PySem.W.Frag} {mg : Str → Option Value} {M : Hp} {al : List Addr} {vs : List V} {ws : List Va} (r : Rps K mg M al vs ws) {i : Int} {x : Va} (e : atI ws i = some x) : ∃ z, atI vs i = some z ∧ Rp K mg M al z x := by
  unfold atI at e ⊢
  rw [Paired.length r]
  cases h : ixN ws.length i with
  | none => rw [h] at e; cases e
  | some j =>
    rw [h] at e
    simp only [Option.bind_some] at e ⊢
    clear h
    induction r generalizing j with
    | nil => simp at e
    | cons a b ih =>
      cases j with
      | zero => simp at e; subst e; exact ⟨_, rfl, a⟩
      | succ j => simpa using ih j (by simpa using e)
def opIx : Op2 := fun w u L => match w.dget L u with
  | some (some x) => .ok x L
  | some none => .stuck
  | none => match u with
    | .d (.int i) => match w.seq L with
      | some ws => match atI ws i with
        | some x => .ok x L
        | none => .stuck
      | none => match w with
        | .d (.str z) => if z.length ≤ sizeLine then match atI z.cps.toList i with
          | some c => .ok (.d (.str ⟨#[c]⟩)) L
          | none => .stuck
          else .stuck
        | _ => .stuck
    | _ => .stuck
def rIxD : R2 := fun x y H Q => ∃ a v, x = .ref a ∧ DGet H a y (some v) ∧ Q v H
theorem ix_dict (hu : X.A.units + 1 < cLine) : IxR X rIxD := by
  intro value slice pins s σ H x y v u Q I rx ry h hs
  obtain ⟨a, z, rfl, g, q⟩ := h
  obtain rfl : v = Value.ref a := rx
  have hT := dict_typeIs I g
  unfold subscriptTail
  refine wpAny_bind ?_
  rw [getitemInPython_of_ne hT.not_modules]
  refine wpAny_bind (wpAny_specialOf hT PySem.F.slot_dict_getitem.lookup ?_)
  have fin : wpAny (model X.prog X.w) X.A (subscripted slice false (.ref a) u) (fun r s₃ => wpAny (model X.prog X.w) X.A (letTemporaryGo value (.ref a) r >>= fun _ => pure r) (EP X pins σ Q) X.xe s₃) X.xe s := by
    rw [hs]
    exact wpAny_operating (wpAny_mono (d_getItem (Q := EP X pins σ Q) (E := X.xe) hu I g ry fun w' s' I' r' => ⟨z, H, I', r', q⟩) (fun r s₃ h₃ => wpAny_bind (wpAny_letTemporaryGo (wpAny_pure h₃))) fun _ _ x => x)
  first
    | exact wpAny_pure (wpAny_bind fin)
    | exact wpAny_bind (wpAny_pure (wpAny_bind fin))
    | exact wpAny_bind fin
theorem ok_ix : Ok2 X (fun x y H Q => rIxD x y H Q ∨ rIx X.K x y H Q) opIx := by
  intro Wx σ H al T L x y w u Q r q1 q2 h
  unfold opIx at h
  split at h
  · rename_i x e
    obtain ⟨a, ov, rfl, g, k⟩ := dget_ok r q1 q2 e
    cases ov with
    | none => exact k.elim
    | some z => exact .inl ⟨a, z, rfl, g, gok r h k⟩
  · exact h.elim
  · split at h
    · rename_i i _
      have hy := dq_int (rp_d q2)
      split at h
      · rename_i ws e
        obtain ⟨a, vs, rfl, sq, rr⟩ := seq_ok r q1 e
        split at h
        · rename_i x e2
          obtain ⟨z, h1, h2⟩ := atI_pair rr e2
          rcases sq with sq | sq
          · exact .inr (.inl ⟨a, vs, i, z, rfl, hy, sq, h1, gok r h h2⟩)
          · exact .inr (.inr (.inl ⟨a, vs, i, z, rfl, hy, sq, h1, gok r h h2⟩))
        · exact h.elim
      · split at h
        · rename_i z _ _
          split at h
          · split at h
            · rename_i hz _ c e2
              exact .inr (.inr (.inr ⟨z, i, c, dq_str (rp_d q1), hy, hz, e2, gok r h (.d (.str _))⟩))
            · exact h.elim
          · exact h.elim
        · exact h.elim
    · exact h.elim
theorem se_ix {a b : Expr} {fa fb : EF} {pos : Pos} (hu : X.A.units + 1 < cLine) (ha : SE X Wx a fa) (hb : SE X Wx b fb) (hs : PlainIx b := by exact fun _ _ => rfl) : SE X Wx (.Subscript a b pos) (eOp opIx fa fb) :=
  PE.imp (pe_ix ((ix_dict hu).or ix_seq) ha hb hs) fun _ _ _ h => op_core ok_ix h
end
end L2.HW
namespace L2.HW
open PySem PySem.Spec PyProof.Rows
section
variable {X : Cx} {Wx : WX}
def SO (X : Cx) (Wx : WX) (e : Option Expr) (f : En → LH → Res (Option Int)) : Prop := PO X e (Rdg X Wx RO f)
theorem PO.imp {e : Option Expr} {t t' : TO} (h : PO X e t) (k : ∀ σ H Q, t' σ H Q → t σ H Q) : PO X e t' := ⟨fun pins s σ H Q I q => h.run pins s σ H Q I (k σ H Q q)⟩
def pNone : En → LH → Res (Option Int) := fun _ L => .ok none L
def pSome (f : EF) : En → LH → Res (Option Int) := fun env L => (f env L).bind fun w L1 => match w with
  | .d (.int i) => .ok (some i) L1
  | _ => .stuck
theorem so_none : SO X Wx none pNone := PO.imp po_none fun σ H Q ⟨env, L, al, T, c, h⟩ => gok c.rel h rfl
theorem so_some {e : Expr} {f : EF} (h : SE X Wx e f) : SO X Wx (some e) (pSome f) := by
  refine PO.imp (po_some h) ?_
  rintro σ H Q ⟨env, L, al, T, c, q⟩
  refine rseq (R := RV X) c q fun v H1 w L1 al1 c1 s1 r1 q1 => ?_
  split at q1
  · exact ⟨_, dq_int (rp_d r1), gok c1.rel q1 rfl⟩
  · exact q1.elim
def cutA {α : Type} (xs : List α) (lo hi : Option Int) : List α := (xs.drop (HT.sIx xs.length 0 lo)).take (HT.sIx xs.length xs.length hi - HT.sIx xs.length 0 lo)
theorem cutA_map {α β : Type} (f : α → β) (xs : List α) (lo hi : Option Int) : cutA (xs.map f) lo hi = (cutA xs lo hi).map f := by
  unfold cutA
  simp [List.map_drop, List.map_take]
theorem rps_drop {K : PySem.W.Frag} {mg : Str → Option Value} {M : Hp} {al : List Addr} : ∀ {vs : List V} {ws : List Va} (n : Nat), Rps K mg M al vs ws → Rps K mg M al (vs.drop n) (ws.drop n)
  | _, _, 0, h => h
  | _, _, _ + 1, .nil => .nil
  | _, _, n + 1, .cons _ b => rps_drop n b
theorem rps_take {K : PySem.W.Frag} {mg : Str → Option Value} {M : Hp} {al : List Addr} : ∀ {vs : List V} {ws : List Va} (n : Nat), Rps K mg M al vs ws → Rps K mg M al (vs.take n) (ws.take n)
  | _, _, 0, _ => .nil
  | _, _, _ + 1, .nil => .nil
  | _, _, n + 1, .cons a b => .cons a (rps_take n b)
theorem rps_cut {K : PySem.W.Frag} {mg : Str → Option Value} {M : Hp} {al : List Addr} {vs : List V} {ws : List Va} (h : Rps K mg M al vs ws) (lo hi : Option Int) : Rps K mg M al (cutV vs lo hi) (cutA ws lo hi) := by
  unfold cutV cutA
  rw [Paired.length h]
  exact rps_take _ (rps_drop _ h)
theorem cut_whole {α : Type} {xs : List α} {lo hi : Option Int} (h : HT.sIx xs.length 0 lo = 0 ∧ HT.sIx xs.length xs.length hi = xs.length) : cutA xs lo hi = xs := by
  unfold cutA
  rw [h.1, h.2]
  simp
def opSl (w : Va) (lo hi : Option Int) (L : LH) : Res Va := match w with
  | .d (.tuple xs) => .ok (.d (.tuple (cutA xs lo hi))) L
  | .d (.str z) => if z.length ≤ sizeLine then .ok (.d (.str (cutS z lo hi))) L else .stuck
  | w => match w.items L with
    | some ws => match datas (cutA ws lo hi) with
      | some xs => .ok (.d (.list xs)) L
      | none => .stuck
    | none => .stuck
def eSl (f : EF) (p q : En → LH → Res (Option Int)) : EF := fun env L => (f env L).bind fun w L1 => (p env L1).bind fun lo L2 => (q env L2).bind fun hi L3 => opSl w lo hi L3
abbrev rSlAny (X : Cx) : V → Option Int → Option Int → Hp → VK → Prop := fun x lo hi H Q => rSlA X.K x lo hi H Q ∨ rSlL X.K x lo hi H Q ∨ rSlS x lo hi H Q
theorem sl_any : SlR X (rSlAny X) := SlR.or sl_tupA (SlR.or sl_list sl_str)
theorem se_sl {e : Expr} {lo hi : Option Expr} {f : EF} {p q : En → LH → Res (Option Int)} {p2 pos : Pos} (he : SE X Wx e f) (hl : SO X Wx lo p) (hu : SO X Wx hi q) : SE X Wx (.Subscript e (.Slice lo hi none p2) pos) (eSl f p q) := by
  refine PE.imp (pe_slice sl_any he hl hu) ?_
  rintro σ H Q ⟨env, L, al, T, c, h⟩
  refine rseq (R := RV X) c h fun v H1 w L1 al1 c1 s1 r1 h1 => ?_
  refine rseq (R := RO) c1 h1 fun lo' H2 lo L2 al2 c2 s2 e2 h2 => ?_
  refine rseq (R := RO) c2 h2 fun hi' H3 hi L3 al3 c3 s3 e3 h3 => ?_
  obtain rfl : lo' = lo := e2
  obtain rfl : hi' = hi := e3
  have r3 := s3.rp (s2.rp r1)
  unfold opSl at h3
  split at h3
  · rename_i xs
    obtain ⟨a, vs, rfl, e1, d1⟩ := dq_tup (rp_d r3)
    have l1 := d1.len
    refine .inl ⟨a, vs, rfl, SqT.of (of_mask e1).2, fun z => ?_, fun z => gnew c3.rel h3 fun p hp e m e' => ?_⟩
    · rw [l1] at z
      rw [cut_whole z] at h3
      exact gok c3.rel h3 (.d (.tup e1 d1))
    · have := rps_cut (K := X.K) (mg := X.mg) (al := al3) (all_dq (K := X.K) (mg := X.mg) (al := al3) d1) lo' hi'
      rw [cutA_map] at this
      exact .d (.tup e' (DqAll.le m (dq_all this)))
  · rename_i z
    split at h3
    · exact .inr (.inr ⟨z, dq_str (rp_d r3), by assumption, gok c3.rel h3 (.d (.str _))⟩)
    · exact h3.elim
  · split at h3
    · rename_i ws e1
      obtain ⟨a, vs, rfl, f1, d1⟩ := items_ok c3.rel r3 e1
      split at h3
      · rename_i xs e4
        have := rps_cut d1 lo' hi'
        rw [datas_eq e4] at this
        exact .inr (.inl ⟨a, vs, rfl, SqL.of f1, gnew c3.rel h3 fun p hp e m e' => .d (.lst e' (DqAll.le m (dq_all this)))⟩)
      · exact h3.elim
    · exact h3.elim
def fSl (f : EF) (p q : En → LH → Res (Option Int)) : En → LH → Res Ob := fun env L => (f env L).bind fun w L1 => (p env L1).bind fun lo L2 => (q env L2).bind fun hi L3 => match w.items L3 with
  | some ws => .ok (.lst (cutA ws lo hi)) L3
  | none => .stuck
def fCat (f g : EF) : En → LH → Res Ob := fun env L => (f env L).bind fun w L1 => (g env L1).bind fun u L2 => match w.items L2, u.items L2 with
  | some ws, some us => if ws.length + us.length ≤ sizeLine then .ok (.lst (ws ++ us)) L2 else .stuck
  | _, _ => .stuck
theorem sf_cat {a b : Expr} {f g : EF} {pos : Pos} (ha : SE X Wx a f) (hb : SE X Wx b g) : SF X Wx (.BinOp a .Add b pos) (fCat f g) := by
  refine PE.imp (pe_op op_cat ha hb) ?_
  rintro σ H Q ⟨env, L, al, T, c, h⟩
  refine fseq (R := RV X) c h fun v H1 w L1 al1 c1 s1 r1 h1 => ?_
  refine fseq (R := RV X) c1 h1 fun y H2 u L2 al2 c2 s2 r2 h2 => ?_
  split at h2
  · rename_i ws us e1 e2
    obtain ⟨a, vs, rfl, f1, d1⟩ := items_ok c2.rel (s2.rp r1) e1
    obtain ⟨b, zs, rfl, f2, d2⟩ := items_ok c2.rel r2 e2
    have l1 := Paired.length d1
    have l2 := Paired.length d2
    split at h2
    · exact ⟨a, b, vs, zs, rfl, rfl, f1, f2, by omega, fnew c2.rel h2 fun p hp e m => ⟨_, e, Rps.le m (ALe.refl _) (rps_app d1 d2)⟩⟩
    · exact h2.elim
  · exact h2.elim
def fRep (f g : EF) : En → LH → Res Ob := fun env L => (f env L).bind fun w L1 => (g env L1).bind fun u L2 => match w.items L2, u with
  | some ws, .d (.int k) => if -(2 ^ 63) ≤ k ∧ k < 2 ^ 63 ∧ ws.length * k.toNat ≤ sizeLine then .ok (.lst (rep k.toNat ws)) L2 else .stuck
  | _, _ => .stuck
def flatD : PyData → Bool
  | .none => true
  | .bool _ => true
  | .int _ => true
  | .str _ => true
  | _ => false
theorem flat_eq {M : Hp} {v y : V} {x z : PyData} (h1 : Dq M v x) (h2 : Dq M y z) (f1 : flatD x = true) (f2 : flatD z = true) : flatV v = true ∧ eqV y v = PyData.eqv z x := by
  cases h1 <;> first | (cases f1; done) | (cases h2 <;> first | (cases f2; done) | exact ⟨rfl, by simp [eqV, PyData.eqv]⟩)
theorem flat_all {M : Hp} {v : V} {x : PyData} (h1 : Dq M v x) (f1 : flatD x = true) : ∀ {vs : List V} {xs : List PyData}, DqAll M vs xs → xs.all flatD = true → vs.all flatV = true ∧ inV v vs = xs.any fun z => PyData.eqv z x
  | _, _, .nil, _ => ⟨rfl, rfl⟩
  | _, _, .cons a b, f => by
    rw [List.all_cons, Bool.and_eq_true] at f
    obtain ⟨h, e⟩ := flat_eq h1 a f1 f.1
    obtain ⟨h3, _⟩ := flat_eq a a f.1 f.1
    obtain ⟨h2, e2⟩ := flat_all h1 f1 b f.2
    refine ⟨by rw [List.all_cons, h3, h2]; rfl, ?_⟩
    have e2' := e2
    unfold inV at e2' ⊢
    rw [List.any_cons, List.any_cons, e, e2']
def opIn (neg : Bool) : Op2 := fun w u L => match u.dget L w with
  | some o => .ok (.d (.bool (if neg then !o.isSome else o.isSome))) L
  | none => match u, w with
    | .d (.str z), .d (.str s) => match s.cps.toList with
      | [c] => .ok (.d (.bool (if neg then !decide (c ∈ z.cps.toList) else decide (c ∈ z.cps.toList)))) L
      | _ => .stuck
    | .d (.tuple ds), .d x => if flatD x && ds.all flatD then .ok (.d (.bool (if neg then !(ds.any fun z => PyData.eqv z x) else ds.any fun z => PyData.eqv z x))) L else .stuck
    | u, w => match u.data L, w.data L with
      | some (.list ds), some x => if SeqAt.shaped x && SeqAt.shaped (.list ds) then .ok (.d (.bool (if neg then !(ds.any fun z => PyData.eqv z x) else ds.any fun z => PyData.eqv z x))) L else .stuck
      | _, _ => .stuck
def rInDc (neg : Bool) : R2 := fun x y H Q => ∃ a o, y = .ref a ∧ DGet H a x o ∧ Q (.bl (if neg then !o.isSome else o.isSome)) H
theorem op_in_dict (hu : X.A.units + 1 < cLine) : OpR X (compareOp .In) (rInDc false) := by
  intro pins s σ H x y v u Q I rx ry h
  obtain ⟨a, o, rfl, g, q⟩ := h
  obtain rfl : u = Value.ref a := ry
  exact d_in hu I g rx fun s3 I3 => ⟨.bl o.isSome, H, I3, rfl, q⟩
theorem op_notIn_dict (hu : X.A.units + 1 < cLine) : OpR X (compareOp .NotIn) (rInDc true) := by
  intro pins s σ H x y v u Q I rx ry h
  obtain ⟨a, o, rfl, g, q⟩ := h
  obtain rfl : u = Value.ref a := ry
  exact d_notIn hu I g rx fun s3 I3 => ⟨.bl (!o.isSome), H, I3, rfl, q⟩
abbrev rInSg (neg : Bool) : R2 := fun x y H Q => ∃ (c : Nat) (z : Str), x = .str ⟨#[c]⟩ ∧ y = .str z ∧ Q (.bl (if neg then !decide (c ∈ z.cps.toList) else decide (c ∈ z.cps.toList))) H
abbrev rInDd (X : Cx) (neg : Bool) : R2 := fun x y H Q => ∃ d ds, Dp X.K H x d ∧ Dp X.K H y (.list ds) ∧ SeqAt.shaped d = true ∧ SeqAt.shaped (.list ds) = true ∧ Q (.bl (if neg then !(ds.any fun z => PyData.eqv z d) else ds.any fun z => PyData.eqv z d)) H
abbrev rInAny (X : Cx) (neg : Bool) : R2 := fun x y H Q => rInDc neg x y H Q ∨ rInSg neg x y H Q ∨ rIn X.K neg x y H Q ∨ rInDd X neg x y H Q
theorem op_in_any (hu : X.A.units + 65 < cLine) : OpR X (compareOp .In) (rInAny X false) :=
  OpR.or (op_in_dict (by omega)) (OpR.or (r := rInSg false) op_in_sign (OpR.or op_in_seq (r' := rInDd X false) (op_inD hu)))
theorem op_notIn_any (hu : X.A.units + 65 < cLine) : OpR X (compareOp .NotIn) (rInAny X true) :=
  OpR.or (op_notIn_dict (by omega)) (OpR.or (r := rInSg true) op_notIn_sign (OpR.or op_notIn_seq (r' := rInDd X true) (op_notInD hu)))
theorem ok_in {neg : Bool} : Ok2 X (rInAny X neg) (opIn neg) := by
  intro Wx σ H al T L x y w u Q r q1 q2 h
  unfold opIn at h
  split at h
  · rename_i o e
    obtain ⟨a, ov, rfl, g, k⟩ := dget_ok r q2 q1 e
    refine .inl ⟨a, ov, rfl, g, ?_⟩
    have : ov.isSome = o.isSome := by
      cases ov <;> cases o <;> first | rfl | exact k.elim
    rw [this]
    exact gok r h (.d (.bl _))
  · split at h
    · rename_i z s _
      split at h
      · rename_i c e
        have e1 : s = ⟨#[c]⟩ := by
          obtain ⟨cps⟩ := s
          simp only at e
          congr 1
          exact Array.toList_inj.mp e
        refine .inr (.inl ⟨c, z, ?_, dq_str (rp_d q2), gok r h (.d (.bl _))⟩)
        rw [dq_str (rp_d q1), e1]
      · exact h.elim
    · rename_i ds x _
      split at h
      · rename_i hc
        rw [Bool.and_eq_true] at hc
        obtain ⟨a, vs, rfl, e1, d1⟩ := dq_tup (rp_d q2)
        obtain ⟨h1, h2⟩ := flat_all (rp_d q1) hc.1 d1 hc.2
        obtain ⟨h3, _⟩ := flat_eq (rp_d q1) (rp_d q1) hc.1 hc.1
        refine .inr (.inr (.inl ⟨a, vs, rfl, .inr (SqT.of (of_mask e1).2), h3, h1, ?_⟩))
        rw [h2]
        exact gok r h (.d (.bl _))
      · exact h.elim
    · split at h
      · rename_i ds x e1 e2
        split at h
        · rename_i hc
          rw [Bool.and_eq_true] at hc
          exact .inr (.inr (.inr ⟨x, ds, (data_ok r q1 e2).dp, (data_ok r q2 e1).dp, hc.1, hc.2, gok r h (.d (.bl _))⟩))
        · exact h.elim
      · exact h.elim
end
end L2.HW
namespace L2.HW
open PySem PySem.Spec PyProof.Rows
section
variable {X : Cx} {Wx : WX}
def OkC (X : Cx) (r : List V → Hp → VK → Prop) (g : List Va → LH → Res Va) : Prop := ∀ (Wx : WX) (σ : St) (H : Hp) (al T : List Addr) (L : LH) (xs : List V) (ws : List Va) (Q : VK), Rel X.K X.mg H al T L → RVs X (mask H (al ++ T)) al xs ws →
  GPost X Wx σ H al T L (RV X) (g ws L) Q → r xs H Q
def eCallB (g : List Va → LH → Res Va) (fs : En → LH → Res (List Va)) : EF := fun env L => (fs env L).bind g
def fCallB (g : List Va → LH → Res Ob) (fs : En → LH → Res (List Va)) : En → LH → Res Ob := fun env L => (fs env L).bind g
variable {x : Str} {p pos : Pos} {e : Expr} {es : List Expr} {fs : En → LH → Res (List Va)} {id T : String} {r : List V → Hp → VK → Prop}
theorem callB_core {g : List Va → LH → Res Va} {σ : St} {H : Hp} {Q : VK} (ok : OkC X r g) (h : Rdg X Wx (RV X) (eCallB g fs) σ H Q) : tCB r (Rdg X Wx (RVs X) fs) σ H Q := by
  obtain ⟨env, L, al, T, c, q⟩ := h
  exact rseq (R := RVs X) c q fun vs H1 ws L1 al1 c1 s1 r1 q1 => ok Wx σ H1 al1 T L1 vs ws Q c1.rel r1 q1
theorem se_callB {g : List Va → LH → Res Va} (hc : CallR X (.builtin id) r) (ok : OkC X r g) (hg : Gl X x) (hm : X.mg x = none) (hv : bootBuiltins x = some (.builtin id)) (ha : SA X Wx (e :: es) fs) (hn : x ≠ "__name__" := by decide) (hdb : (x == ("__debug__" : Str)) = false := by decide)
    (he : starEach (e :: es) X.env = (false, eval e X.env) :: starEach es X.env := by rfl) (hpl : (backTo pos (starEach es X.env)).any (·.1) = false := by rfl) : SE X Wx (.Call (.Name x p) (e :: es) [] pos) (eCallB g fs) :=
  PE.imp (pe_callB hc hg hm hv ha hn hdb he hpl) fun _ _ _ h => callB_core ok h
theorem se_callTy {g : List Va → LH → Res Va} (hc : CallR X (.type T) r) (ok : OkC X r g) (hg : Gl X x) (hm : X.mg x = none) (hv : bootBuiltins x = some (.type T)) (ha : SA X Wx (e :: es) fs) (hn : x ≠ "__name__" := by decide) (hdb : (x == ("__debug__" : Str)) = false := by decide)
    (he : starEach (e :: es) X.env = (false, eval e X.env) :: starEach es X.env := by rfl) (hpl : (backTo pos (starEach es X.env)).any (·.1) = false := by rfl) : SE X Wx (.Call (.Name x p) (e :: es) [] pos) (eCallB g fs) :=
  PE.imp (pe_callTy hc hg hm hv ha hn hdb he hpl) fun _ _ _ h => callB_core ok h
theorem rps_1 {K : PySem.W.Frag} {mg : Str → Option Value} {M : Hp} {al : List Addr} {xs : List V} {w : Va} (h : Rps K mg M al xs [w]) : ∃ v, xs = [v] ∧ Rp K mg M al v w := by
  cases h with | cons a b => cases b; exact ⟨_, rfl, a⟩
theorem rps_2 {K : PySem.W.Frag} {mg : Str → Option Value} {M : Hp} {al : List Addr} {xs : List V} {w u : Va} (h : Rps K mg M al xs [w, u]) : ∃ v y, xs = [v, y] ∧ Rp K mg M al v w ∧ Rp K mg M al y u := by
  cases h with | cons a b => cases b with | cons c d => cases d; exact ⟨_, _, rfl, a, c⟩
def cLen : List Va → LH → Res Va := fun ws L => match ws with
  | [w] => match w with
    | .d (.str z) => if z.length ≤ sizeLine then .ok (.d (.int z.length)) L else .stuck
    | .dct ks => .ok (.d (.int ks.length)) L
    | w => match w.seq L with
      | some us => .ok (.d (.int us.length)) L
      | none => match w with
        | .loc n => match L[n]? with
          | some (some (.di ks)) => .ok (.d (.int ks.length)) L
          | _ => .stuck
        | _ => .stuck
  | _ => .stuck
abbrev rLenS (X : Cx) : List V → Hp → VK → Prop := fun xs H Q => ∃ x n, xs = [x] ∧ LenV X.K x H n ∧ Q (.int n) H
abbrev rLenD : List V → Hp → VK → Prop := fun xs H Q => ∃ a kvs, xs = [.ref a] ∧ H a = some (.dK kvs) ∧ Q (.int (kvs.length : Nat)) H
theorem call_lenDK : CallR X (.builtin "len") rLenD := by
  intro pins s σ H xs us Q I r h
  obtain ⟨a, kvs, rfl, e, q⟩ := h
  rw [Vals.ref1 r]
  exact d_len I (.inl e) fun t s' I' => ⟨.int _, H, I', ⟨t, rfl⟩, q⟩
theorem cr_len : CallR X (.builtin "len") (fun xs H Q => rLenS X xs H Q ∨ rLenD xs H Q) := CallR.or call_len call_lenDK
theorem ok_len : OkC X (fun xs H Q => rLenS X xs H Q ∨ rLenD xs H Q) cLen := by
  intro Wx σ H al T L xs ws Q r q h
  unfold cLen at h
  split at h
  · rename_i w
    obtain ⟨v, rfl, q1⟩ := rps_1 q
    split at h
    · rename_i z
      split at h
      · exact .inl ⟨v, z.length, rfl, by rw [dq_str (rp_d q1)]; exact ⟨by assumption, rfl⟩, gok r h (.d (.int _))⟩
      · exact h.elim
    · rename_i ks
      cases q1 with
      | @dct a kvs _ e1 e2 =>
        have l := Paired.length e2
        refine .inr ⟨a, kvs, rfl, (of_mask e1).2, ?_⟩
        rw [l]
        exact gok r h (.d (.int _))
    · split at h
      · rename_i us e
        obtain ⟨a, vs, rfl, sq, rr⟩ := seq_ok r q1 e
        have l := Paired.length rr
        refine .inl ⟨.ref a, us.length, rfl, ?_, gok r h (.d (.int _))⟩
        rcases sq with sq | sq
        · exact .inl ⟨vs, sq, l.symm⟩
        · exact .inr ⟨vs, sq, l.symm⟩
      · split at h
        · rename_i n _ _ _
          split at h
          · rename_i ks e1
            cases q1 with
            | @loc _ a e2 =>
              obtain ⟨a', e3, kvs, e4, e5⟩ := r.cell n _ e1
              rw [e2] at e3; cases e3
              have l := Paired.length e5
              refine .inr ⟨a, kvs, rfl, e4, ?_⟩
              rw [l]
              exact gok r h (.d (.int _))
          · exact h.elim
        · exact h.elim
  · exact h.elim
def Va.kind (L : LH) : Va → Option String
  | .d .none => some "NoneType"
  | .d (.bool _) => some "bool"
  | .d (.int _) => some "int"
  | .d (.str _) => some "str"
  | .d (.list _) => some "list"
  | .d (.tuple _) => some "tuple"
  | .d (.dict _) => some "dict"
  | .tup _ => some "tuple"
  | .dct _ => some "dict"
  | .loc n => match L[n]? with
    | some (some (.lst _)) => some "list"
    | some (some (.di _)) => some "dict"
    | some (some (.dt _)) => some "dict"
    | _ => none
  | _ => none
def isKind (a T : String) : Bool := a == T || (a == "bool" && T == "int")
def kinds : List String := ["NoneType", "bool", "int", "str", "list", "tuple", "dict"]
theorem kind_mem {L : LH} {w : Va} {k : String} (e : w.kind L = some k) : k ∈ kinds := by
  unfold Va.kind at e
  split at e <;> first | (cases e; decide) | (split at e <;> first | (cases e; decide) | cases e) | cases e
theorem kind_ok {K : PySem.W.Frag} {mg : Str → Option Value} {H : Hp} {al T : List Addr} {L : LH} (r : Rel K mg H al T L) {v : V} {w : Va} {k : String} (q : Rp K mg (mask H (al ++ T)) al v w) (e : w.kind L = some k) : TyX K H v (.type k) := by
  unfold Va.kind at e
  split at e
  · cases e; rw [dq_non (rp_d q)]; exact .base .non
  · cases e; rw [dq_bl (rp_d q)]; exact .base (.bl _)
  · cases e; rw [dq_int (rp_d q)]; exact .base (.int _)
  · cases e; rw [dq_str (rp_d q)]; exact .base (.str _)
  · cases e; obtain ⟨a, vs, rfl, e1, _⟩ := dq_lst (rp_d q); exact .base (.lst (of_mask e1).2)
  · cases e; obtain ⟨a, vs, rfl, e1, _⟩ := dq_tup (rp_d q); exact .base (.tup (of_mask e1).2)
  · exact nomatch (rp_d q)
  · cases e
    cases q with
    | tup e1 _ => exact .base (.tup (of_mask e1).2)
  · cases e
    cases q with
    | dct e1 _ => exact .base (.dK (of_mask e1).2)
  · rename_i n
    cases q with
    | @loc _ a e2 =>
      split at e
      · rename_i ws e1
        cases e
        obtain ⟨a', e3, kvs, e4, e5⟩ := r.cell n _ e1
        rw [e2] at e3; cases e3
        exact .base (.lst e4)
      · rename_i ws e1
        cases e
        obtain ⟨a', e3, kvs, e4, e5⟩ := r.cell n _ e1
        rw [e2] at e3; cases e3
        exact .base (.dK e4)
      · rename_i ws e1
        cases e
        obtain ⟨a', e3, kvs, e4, e5⟩ := r.cell n _ e1
        rw [e2] at e3; cases e3
        exact .base (.dT e4)
      · cases e
  · cases e
def eIsi (T : String) (f : EF) : EF := fun env L => (f env L).bind fun w L1 => match w.kind L1 with
  | some k => .ok (.d (.bool (isKind k T))) L1
  | none => .stuck
theorem se_isi {y : Str} {q : Pos} {f : EF} (hg : Gl X "isinstance") (hm : X.mg "isinstance" = none) (hg2 : Gl X y) (hm2 : X.mg y = none) (hv2 : bootBuiltins y = some (.type T)) (hk : ∀ k ∈ kinds, kitB k T = some (isKind k T)) (ha : SE X Wx e f)
    (hn2 : y ≠ "__name__" := by decide) (hd2 : (y == ("__debug__" : Str)) = false := by decide)
    (he : starEach (e :: [.Name y q]) X.env = (false, eval e X.env) :: starEach [.Name y q] X.env := by rfl) : SE X Wx (.Call (.Name "isinstance" p) [e, .Name y q] [] pos) (eIsi T f) := by
  refine PE.imp (pe_callB call_isi hg hm (by decide +kernel) (pa_cons ha (pa_cons (pe_bltn (v := .ty T) hg2 hm2 hv2 rfl hn2 hd2) pa_nil) he) (by decide) (by decide) he rfl) ?_
  rintro σ H Q ⟨env, L, al, T', c, h⟩
  refine rseq (R := RV X) c h fun v H1 w L1 al1 c1 s1 r1 q1 => ?_
  split at q1
  · rename_i k ek
    exact ⟨v, .ty T, .type k, .type T, isKind k T, rfl, .ty T, kind_ok c1.rel r1 ek, kit_ty (hk k (kind_mem ek)), gok c1.rel q1 (.d (.bl _))⟩
  · exact q1.elim
theorem kit_int : ∀ k ∈ kinds, kitB k "int" = some (isKind k "int") := by decide +kernel
theorem kit_bool : ∀ k ∈ kinds, kitB k "bool" = some (isKind k "bool") := by decide +kernel
theorem kit_tuple : ∀ k ∈ kinds, kitB k "tuple" = some (isKind k "tuple") := by decide +kernel
def boolsOf : List Va → Option (List Bool)
  | [] => some []
  | .d (.bool b) :: r => (boolsOf r).map (b :: ·)
  | _ :: _ => none
@[simp] theorem boolsOf_nil : boolsOf [] = some [] := (rfl)
@[simp] theorem boolsOf_map (bs : List Bool) : boolsOf (bs.map fun b => Va.d (.bool b)) = some bs := by
  induction bs with
  | nil => rfl
  | cons b r ih => simp only [List.map_cons, boolsOf, ih]; rfl
theorem bools_ok {K : PySem.W.Frag} {mg : Str → Option Value} {M : Hp} {al : List Addr} : ∀ {vs : List V} {ws : List Va} {bs : List Bool}, Rps K mg M al vs ws → boolsOf ws = some bs → vs = bs.map V.bl
  | _, _, bs, .nil, h => by cases h; rfl
  | _, .d (.bool b) :: ws, bs, .cons q r, h => by
    simp only [boolsOf] at h
    cases e : boolsOf ws with
    | none => rw [e] at h; cases h
    | some cs => rw [e] at h; cases h; rw [bools_ok r e, dq_bl (rp_d q)]; rfl
  | _, .d .none :: _, _, .cons _ _, h => by cases h
  | _, .d (.int _) :: _, _, .cons _ _, h => by cases h
  | _, .d (.str _) :: _, _, .cons _ _, h => by cases h
  | _, .d (.list _) :: _, _, .cons _ _, h => by cases h
  | _, .d (.tuple _) :: _, _, .cons _ _, h => by cases h
  | _, .d (.dict _) :: _, _, .cons _ _, h => by cases h
  | _, .loc _ :: _, _, .cons _ _, h => by cases h
  | _, .tup _ :: _, _, .cons _ _, h => by cases h
  | _, .dct _ :: _, _, .cons _ _, h => by cases h
  | _, .exc _ _ :: _, _, .cons _ _, h => by cases h
  | _, .scr _ :: _, _, .cons _ _, h => by cases h
def vaInts : List Va → Option (List Int)
  | [] => some []
  | .d (.int b) :: r => (vaInts r).map (b :: ·)
  | _ :: _ => none
@[simp] theorem vaInts_nil : vaInts [] = some [] := (rfl)
@[simp] theorem vaInts_map (bs : List Int) : vaInts (bs.map fun b => Va.d (.int b)) = some bs := by
  induction bs with
  | nil => rfl
  | cons b r ih => simp only [List.map_cons, vaInts, ih]; rfl
def one (ws : List Va) (L : LH) (k : List Va → Res Va) : Res Va := match ws with
  | [w] => match w.items L with
    | some us => k us
    | none => .stuck
  | _ => .stuck
theorem one_ok {H : Hp} {al T : List Addr} {L : LH} {σ : St} {xs : List V} {ws : List Va} {k : List Va → Res Va} {Q : VK} (r : Rel X.K X.mg H al T L) (q : RVs X (mask H (al ++ T)) al xs ws) (h : GPost X Wx σ H al T L (RV X) (one ws L k) Q) :
    ∃ a vs us, xs = [.ref a] ∧ H a = some (.lst vs) ∧ RVs X (mask H (al ++ T)) al vs us ∧ GPost X Wx σ H al T L (RV X) (k us) Q := by
  unfold one at h
  split at h
  · obtain ⟨v, rfl, q1⟩ := rps_1 q
    split at h
    · rename_i us e
      obtain ⟨a, vs, rfl, f1, d1⟩ := items_ok r q1 e
      exact ⟨a, vs, us, rfl, f1, d1, h⟩
    · exact h.elim
  · exact h.elim
def cAll : List Va → LH → Res Va := fun ws L => one ws L fun us => match boolsOf us with
  | some bs => .ok (.d (.bool (bs.all _root_.id))) L
  | none => .stuck
def cAny : List Va → LH → Res Va := fun ws L => one ws L fun us => match boolsOf us with
  | some bs => .ok (.d (.bool (bs.any _root_.id))) L
  | none => .stuck
def minI : List Int → Option Int
  | [] => none
  | a :: r => some (r.foldl (fun m x => if x < m then x else m) a)
theorem ok_all : OkC X (rAll X.K) cAll := by
  intro Wx σ H al T L xs ws Q r q h
  obtain ⟨a, vs, us, rfl, f1, d1, h⟩ := one_ok r q h
  split at h
  · rename_i bs e
    have := bools_ok d1 e
    subst this
    exact ⟨a, bs, rfl, SqL.of f1, gok r h (.d (.bl _))⟩
  · exact h.elim
theorem ok_any : OkC X (rAny X.K) cAny := by
  intro Wx σ H al T L xs ws Q r q h
  obtain ⟨a, vs, us, rfl, f1, d1, h⟩ := one_ok r q h
  split at h
  · rename_i bs e
    have := bools_ok d1 e
    subst this
    exact ⟨a, bs, rfl, SqL.of f1, gok r h (.d (.bl _))⟩
  · exact h.elim
def cMin2 : List Va → LH → Res Va := fun ws L => match ws with
  | [.d (.int i), .d (.int j)] => .ok (.d (.int (if j < i then j else i))) L
  | _ => .stuck
def cMax2 : List Va → LH → Res Va := fun ws L => match ws with
  | [.d (.int i), .d (.int j)] => .ok (.d (.int (if j > i then j else i))) L
  | _ => .stuck
theorem ok_min2 : OkC X (fun xs H Q => ∃ i j, xs = [.int i, .int j] ∧ Q (.int (if j < i then j else i)) H) cMin2 := by
  intro Wx σ H al T L xs ws Q r q h
  unfold cMin2 at h
  split at h
  · obtain ⟨v, y, rfl, q1, q2⟩ := rps_2 q
    exact ⟨_, _, by rw [dq_int (rp_d q1), dq_int (rp_d q2)], gok r h (.d (.int _))⟩
  · exact h.elim
theorem ok_max2 : OkC X (fun xs H Q => ∃ i j, xs = [.int i, .int j] ∧ Q (.int (if j > i then j else i)) H) cMax2 := by
  intro Wx σ H al T L xs ws Q r q h
  unfold cMax2 at h
  split at h
  · obtain ⟨v, y, rfl, q1, q2⟩ := rps_2 q
    exact ⟨_, _, by rw [dq_int (rp_d q1), dq_int (rp_d q2)], gok r h (.d (.int _))⟩
  · exact h.elim
def cInt : List Va → LH → Res Va := fun ws L => match ws with
  | [.d (.int i)] => .ok (.d (.int i)) L
  | [.d (.bool b)] => .ok (.d (.int (if b then 1 else 0))) L
  | _ => .stuck
theorem ok_int : OkC X (fun xs H Q => (∃ i, xs = [.int i] ∧ Q (.int i) H) ∨ ∃ k, xs = [.bl k] ∧ Q (.int (if k then 1 else 0)) H) cInt := by
  intro Wx σ H al T L xs ws Q r q h
  unfold cInt at h
  split at h
  · obtain ⟨v, rfl, q1⟩ := rps_1 q
    exact .inl ⟨_, by rw [dq_int (rp_d q1)], gok r h (.d (.int _))⟩
  · obtain ⟨v, rfl, q1⟩ := rps_1 q
    exact .inr ⟨_, by rw [dq_bl (rp_d q1)], gok r h (.d (.int _))⟩
  · exact h.elim
def cStr : List Va → LH → Res Va := fun ws L => match ws with
  | [.d (.int i)] => if i.natAbs.log2 < 1920 then .ok (.d (.str (toString i))) L else .stuck
  | _ => .stuck
theorem ok_str : OkC X (fun xs H Q => ∃ i, xs = [.int i] ∧ i.natAbs.log2 < 1920 ∧ Q (.str (toString i)) H) cStr := by
  intro Wx σ H al T L xs ws Q r q h
  unfold cStr at h
  split at h
  · obtain ⟨v, rfl, q1⟩ := rps_1 q
    split at h
    · exact ⟨_, by rw [dq_int (rp_d q1)], by assumption, gok r h (.d (.str _))⟩
    · exact h.elim
  · exact h.elim
def cList : List Va → LH → Res Ob := fun ws L => match ws with
  | [w] => match w.seq L with
    | some us => .ok (.lst us) L
    | none => .stuck
  | _ => .stuck
def cTuple : List Va → LH → Res Va := fun ws L => match ws with
  | [.d (.tuple xs)] => .ok (.d (.tuple xs)) L
  | [w] => match w.items L with
    | some us => .ok (mkTup us) L
    | none => .stuck
  | _ => .stuck
theorem ok_tuple : OkC X (fun xs H Q => ∃ p ys, xs = [.ref p] ∧ ((SqL X.K H p ys ∧ ∀ l, H l = none → Q (.ref l) (upd H l (.tup ys))) ∨ (SqT X.K H p ys ∧ Q (.ref p) H))) cTuple := by
  intro Wx σ H al T L xs ws Q r q h
  unfold cTuple at h
  split at h
  · obtain ⟨v, rfl, q1⟩ := rps_1 q
    obtain ⟨a, vs, rfl, e1, d1⟩ := dq_tup (rp_d q1)
    exact ⟨a, vs, rfl, .inr ⟨SqT.of (of_mask e1).2, gok r h q1⟩⟩
  · obtain ⟨v, rfl, q1⟩ := rps_1 q
    split at h
    · rename_i us e
      obtain ⟨a, vs, rfl, f1, d1⟩ := items_ok r q1 e
      exact ⟨a, vs, rfl, .inl ⟨SqL.of f1, gnew r h fun p hp e m e' => rp_mkTup e' (Rps.le m (ALe.refl _) d1)⟩⟩
    · exact h.elim
  · exact h.elim
def sortI (ns : List Int) : List Int := ns.mergeSort (fun a b => decide (a ≤ b))
end
end L2.HW
namespace L2.HW
open PySem PySem.Spec PyProof.Rows
section
variable {K : PySem.W.Frag} {mg : Str → Option Value} {H : Hp} {al T : List Addr} {L : LH}
theorem mask_in {a : Addr} {o : HO} {P : List Addr} (h : a ∈ P) : mask (upd H a o) P = mask H P := by
  funext b
  unfold mask
  by_cases q : b ∈ P
  · rw [if_pos q, if_pos q]
  · rw [if_neg q, if_neg q, upd_ne]
    rintro rfl
    exact q h
theorem Rel.write (r : Rel K mg H al T L) {n : Nat} {a : Addr} {ob ob' : Ob} {o : HO} (e1 : al[n]? = some a) (e2 : L[n]? = some (some ob)) (q : ObR K mg (mask H (al ++ T)) al (upd H a o) a ob') : Stp K mg H al T L (upd H a o) al T (L.set n (some ob')) := by
  have ha : a ∈ al := List.mem_of_getElem? e1
  have m : mask (upd H a o) (al ++ T) = mask H (al ++ T) := mask_in (List.mem_append_left _ ha)
  have hn : n < L.length := (List.getElem?_eq_some_iff.mp e2).1
  refine ⟨⟨by simp [r.len], r.nd, r.dis, fun b h => ?_, fun k ob1 e => ?_⟩, ⟨[], by simp, fun _ z => nomatch z⟩, ⟨[], by simp, fun _ z => nomatch z⟩, fun b u e z => ?_, fun b e => ?_, fun k e => ?_, fun k ob1 e => ?_⟩
  · by_cases z : b = a
    · subst z; rw [upd_same]; simp
    · rw [upd_ne z]; exact r.trk b h
  · rw [m]
    by_cases z : k = n
    · subst z
      rw [List.getElem?_set_self hn] at e
      cases e
      exact ⟨a, e1, q⟩
    · rw [List.getElem?_set_ne (Ne.symm z)] at e
      obtain ⟨b, e3, q3⟩ := r.cell k ob1 e
      have : b ≠ a := by
        rintro rfl
        obtain ⟨h1, h2⟩ := List.getElem?_eq_some_iff.mp e1
        obtain ⟨h3, h4⟩ := List.getElem?_eq_some_iff.mp e3
        exact z ((List.getElem_inj r.nd).mp (h4.trans h2.symm))
      exact ⟨b, e3, ObR.le (Le.refl _) (ALe.refl _) (fun _ z => by rw [upd_ne this]; exact z) q3⟩
  · rw [upd_ne]
    · exact e
    · rintro rfl
      exact z ⟨n, ob, e1, e2⟩
  · by_cases z : b = a
    · subst z; rw [upd_same]; simp
    · rw [upd_ne z]; exact e
  · by_cases z : k = n
    · subst z; rw [e2] at e; cases e
    · rw [List.getElem?_set_ne (Ne.symm z)]; exact e
  · by_cases z : k = n
    · subst z; rw [List.getElem?_set_self hn]; exact ⟨_, rfl⟩
    · rw [List.getElem?_set_ne (Ne.symm z)]; exact ⟨_, e⟩
end
inductive Out where
  | nx (env : En) (L : LH)
  | rt (w : Va) (L : LH)
  | rf (o : Ob) (L : LH)
  | bk (env : En) (L : LH)
  | ct (env : En) (L : LH)
  | exc (c : Str) (f : Option PyData) (env : En) (L : LH)
  | stuck
def Res.then {α : Type} (r : Res α) (env : En) (k : α → LH → Out) : Out := match r with
  | .ok a L => k a L
  | .exc c f L => .exc c f env L
  | .stuck => .stuck
@[simp] theorem then_ok {α : Type} (a : α) (L : LH) (env : En) (k : α → LH → Out) : (Res.ok a L).then env k = k a L := (rfl)
@[simp] theorem then_exc {α : Type} (c : Str) (f : Option PyData) (L : LH) (env : En) (k : α → LH → Out) : (Res.exc c f L : Res α).then env k = .exc c f env L := (rfl)
@[simp] theorem then_stuck {α : Type} (env : En) (k : α → LH → Out) : (Res.stuck : Res α).then env k = .stuck := (rfl)
abbrev SFn := En → LH → Out
def SPost (X : Cx) (Wx : WX) (H : Hp) (al T : List Addr) (L : LH) (r : Out) (D : Ends) : Prop :=
  match r with
  | .nx env' L' => ∀ σ' H' al', Stp X.K X.mg H al T L H' al' T L' → Conf X.K X.mg σ' H' env' L' al' T → D.nx σ' H'
  | .rt w L' => ∀ v H' al', Stp X.K X.mg H al T L H' al' T L' → RV X (mask H' (al' ++ T)) al' v w → D.rt v H'
  | .rf o L' => ∀ a H' al', H a = none → Stp X.K X.mg H al T L H' al' (a :: T) L' → ObR X.K X.mg (mask H' (al' ++ (a :: T))) al' H' a o → D.rt (.ref a) H'
  | .bk env' L' => ∀ σ' H' al', Stp X.K X.mg H al T L H' al' T L' → Conf X.K X.mg σ' H' env' L' al' T → D.bk σ' H'
  | .ct env' L' => ∀ σ' H' al', Stp X.K X.mg H al T L H' al' T L' → Conf X.K X.mg σ' H' env' L' al' T → D.ct σ' H'
  | .exc c f env' L' => ∀ cls d σ' H' al', Stp X.K X.mg H al T L H' al' T L' → Conf X.K X.mg σ' H' env' L' al' T → ExR X.mg (mask H' (al' ++ T)) c f cls d → Wx cls d σ' H'
  | .stuck => False
def SRdg (X : Cx) (Wx : WX) (f : SFn) : TS := fun D σ H => ∃ env L al T, Conf X.K X.mg σ H env L al T ∧ SPost X Wx H al T L (f env L) D
def SS (X : Cx) (Wx : WX) (st : Stmt) (f : SFn) : Prop := PS X st (SRdg X Wx f)
def SB (X : Cx) (Wx : WX) (st : List Stmt) (f : SFn) : Prop := PSs X st (SRdg X Wx f)
section
variable {X : Cx} {Wx : WX} {σ : St} {H H1 : Hp} {al al1 T : List Addr} {L L1 : LH}
theorem Stp.back {K : PySem.W.Frag} {mg : Str → Option Value} {T1 : List Addr} (s : Stp K mg H al T L H1 al1 T1 L1) {b : Addr} (h : H1 b = none) : H b = none := by
  cases e : H b with
  | none => rfl
  | some o => exact absurd h (s.stay b (by rw [e]; simp))
theorem SPost.on (hl : al.length = L.length) (s : Stp X.K X.mg H al T L H1 al1 T L1) {r : Out} {D : Ends} (h : SPost X Wx H al T L r D) : SPost X Wx H1 al1 T L1 r D := by
  cases r with
  | nx env' L' => exact fun σ' H' al' t c => h σ' H' al' (Stp.trans hl s t) c
  | rt w L' => exact fun v H' al' t c => h v H' al' (Stp.trans hl s t) c
  | rf o L' => exact fun a H' al' ha t c => h a H' al' (s.back ha) (Stp.trans hl s t) c
  | bk env' L' => exact fun σ' H' al' t c => h σ' H' al' (Stp.trans hl s t) c
  | ct env' L' => exact fun σ' H' al' t c => h σ' H' al' (Stp.trans hl s t) c
  | exc c f env' L' => exact fun cls d σ' H' al' t c => h cls d σ' H' al' (Stp.trans hl s t) c
  | stuck => exact h
theorem sseq {α β : Type} {R : Hp → List Addr → β → α → Prop} {env : En} {f : En → LH → Res α} {k : α → LH → Out} {D : Ends} {Q' : β → Hp → Prop}
    (c : Conf X.K X.mg σ H env L al T) (h : SPost X Wx H al T L ((f env L).then env k) D)
    (hk : ∀ b H1 a L1 al1, Conf X.K X.mg σ H1 env L1 al1 T → Stp X.K X.mg H al T L H1 al1 T L1 → R (mask H1 (al1 ++ T)) al1 b a → SPost X Wx H1 al1 T L1 (k a L1) D → Q' b H1) : Rdg X Wx R f σ H Q' := by
  refine ⟨env, L, al, T, c, ?_⟩
  revert h
  generalize f env L = r
  intro g
  cases r with
  | stuck => exact g
  | exc c' f L1 => exact fun cls d H' al' s e => g cls d σ H' al' s (c.stp s) e
  | ok b L1 => exact fun b' H1 al1 s1 q1 => hk b' H1 b L1 al1 (c.stp s1) s1 q1 (SPost.on c.rel.len s1 g)
theorem sok (c : Conf X.K X.mg σ H env L al T) {D : Ends} (h : SPost X Wx H al T L (.nx env L) D) : D.nx σ H := h σ H al (Stp.refl c.rel) c
def sNil : SFn := fun env L => .nx env L
def sSeq (f g : SFn) : SFn := fun env L => match f env L with
  | .nx env1 L1 => g env1 L1
  | o => o
theorem sb_nil : SB X Wx [] sNil := PSs.imp pss_nil fun D σ H ⟨env, L, al, T, c, h⟩ => sok c h
theorem sb_cons {st : Stmt} {rest : List Stmt} {f g : SFn} (h1 : SS X Wx st f) (h2 : SB X Wx rest g) : SB X Wx (st :: rest) (sSeq f g) := by
  refine PSs.imp (pss_cons h1 h2) ?_
  rintro D σ H ⟨env, L, al, T, c, h⟩
  refine ⟨env, L, al, T, c, ?_⟩
  unfold sSeq at h
  revert h
  generalize f env L = r
  intro h
  cases r with
  | nx env1 L1 => exact fun σ' H' al' s c' => ⟨env1, L1, al', T, c', SPost.on c.rel.len s h⟩
  | rt w L' => exact h
  | rf o L' => exact h
  | bk env' L' => exact h
  | ct env' L' => exact h
  | exc c' f' env' L' => exact h
  | stuck => exact h
theorem sb_one {st : Stmt} {f : SFn} (h1 : SS X Wx st f) : SB X Wx [st] f := PSs.imp (pss_one h1) fun D σ H h => h
def sPass : SFn := sNil
def sBreak : SFn := fun env L => .bk env L
def sCont : SFn := fun env L => .ct env L
def sExpr (f : EF) : SFn := fun env L => (f env L).then env fun _ L1 => .nx env L1
theorem ss_expr {e : Expr} {pos : Pos} {f : EF} (he : SE X Wx e f) (hs : swapsWith e none pos.line X.env = pure false := by rfl) : SS X Wx (.Expr e pos) (sExpr f) := by
  refine PS.imp (ps_expr he hs) ?_
  rintro D σ H ⟨env, L, al, T, c, h⟩
  exact sseq (R := RV X) c h fun v H1 w L1 al1 c1 s1 r1 h1 => sok c1 h1
def sRet (f : EF) : SFn := fun env L => (f env L).then env fun w L1 => .rt w L1
theorem ss_ret {e : Expr} {pos : Pos} {f : EF} (he : SE X Wx e f) : SS X Wx (.Return (some e) pos) (sRet f) := by
  refine PS.imp (ps_ret he) ?_
  rintro D σ H ⟨env, L, al, T, c, h⟩
  exact sseq (R := RV X) c h fun v H1 w L1 al1 c1 s1 r1 h1 => h1 v H1 al1 (Stp.refl c1.rel) r1
def sRetN : SFn := fun _ L => .rt (.d .none) L
def sRetF (g : En → LH → Res Ob) : SFn := fun env L => (g env L).then env fun o L1 => .rf o L1
theorem ss_retF {e : Expr} {pos : Pos} {g : En → LH → Res Ob} (he : SF X Wx e g) : SS X Wx (.Return (some e) pos) (sRetF g) := by
  refine PS.imp (ps_ret he) ?_
  rintro D σ H ⟨env, L, al, T, c, h⟩
  refine ⟨env, L, al, T, c, ?_⟩
  unfold sRetF at h
  revert h
  generalize g env L = r
  intro h
  cases r with
  | stuck => exact h
  | exc c' f L1 => exact fun cls d H' al' s e => h cls d σ H' al' s (c.stp s) e
  | ok o L1 => exact h
def sIf (t : En → LH → Res Bool) (f g : SFn) : SFn := fun env L => (t env L).then env fun b L1 => if b then f env L1 else g env L1
theorem ss_if {e : Expr} {a b : List Stmt} {pos : Pos} {t : En → LH → Res Bool} {f g : SFn} (ht : ST X Wx e t) (ha : SB X Wx a f) (hb : SB X Wx b g) : SS X Wx (.If e a b pos) (sIf t f g) := by
  refine PS.imp (ps_if ht ha hb) ?_
  rintro D σ H ⟨env, L, al, T, c, h⟩
  refine sseq (R := RB) c h fun v H1 w L1 al1 c1 s1 r1 h1 => ?_
  obtain rfl : v = w := r1
  cases v with
  | true => exact ⟨env, L1, al1, T, c1, h1⟩
  | false => exact ⟨env, L1, al1, T, c1, h1⟩
def sSet (i : Nat) (f : EF) : SFn := fun env L => (f env L).then env fun w L1 => .nx (env.set i (some w)) L1
theorem ss_set {i : Nat} {x : Str} {e : Expr} {pos pos' : Pos} {f : EF} (hN : X.N.Nodup) (hi : X.N[i]? = some x) (hx : Loc X.env.scope x) (he : SE X Wx e f) (hs : swapsWith e (some (.Name x pos')) pos.line X.env = pure false := by rfl)
    (hf : X.fn x = true ∨ X.env.scope.names.lookup x = some .local := by first | exact .inl rfl | exact .inr rfl | assumption) : SS X Wx (.Assign [.Name x pos'] e pos) (sSet i f) := by
  refine PS.imp (ps_set hN hi hx he hs hf) ?_
  rintro D σ H ⟨env, L, al, T, c, h⟩
  exact sseq (R := RV X) c h fun v H1 w L1 al1 c1 s1 r1 h1 => sok (c1.put r1) (SPost.on c1.rel.len (Stp.refl c1.rel) h1)
def sAug (i : Nat) (g : Int → Int → Int) (f : EF) : SFn := fun env L => match env[i]? with
  | some (some (.d (.int a))) => (f env L).then env fun w L1 => match w with
    | .d (.int b) => .nx (env.set i (some (.d (.int (g a b))))) L1
    | _ => .stuck
  | _ => .stuck
def TPost (X : Cx) (sl : List Nat) (σ : St) (H : Hp) (al T : List Addr) (L : LH) (r : Res En) (Q : St → Hp → Prop) : Prop := match r with
  | .ok env' L' => ∀ σ' H' al', Stp X.K X.mg H al T L H' al' T L' → Conf X.K X.mg σ' H' env' L' al' T → Agr sl σ σ' → Q σ' H'
  | _ => False
def SG (X : Cx) (sl : List Nat) (tg : Expr) (g : Va → En → LH → Res En) : Prop := PG X tg fun v σ H Q => ∃ w env L al T, Conf X.K X.mg σ H env L al T ∧ RV X (mask H (al ++ T)) al v w ∧ TPost X sl σ H al T L (g w env L) Q
def SGs (X : Cx) (sl : List Nat) (ts : List Expr) (g : List Va → En → LH → Res En) : Prop := PGs X ts fun vs σ H Q => ∃ ws env L al T, Conf X.K X.mg σ H env L al T ∧ RVs X (mask H (al ++ T)) al vs ws ∧ TPost X sl σ H al T L (g ws env L) Q
theorem PG.imp {tg : Expr} {t t' : TG} (h : PG X tg t) (k : ∀ v σ H Q, t' v σ H Q → t v σ H Q) : PG X tg t' := ⟨fun pins s σ H v u Q I r q => h.run pins s σ H v u Q I r (k v σ H Q q)⟩
theorem PGs.imp {tg : List Expr} {t t' : TGs} (h : PGs X tg t) (k : ∀ v σ H Q, t' v σ H Q → t v σ H Q) : PGs X tg t' := ⟨fun pins s σ H v u Q I r q => h.run pins s σ H v u Q I r (k v σ H Q q)⟩
theorem PG.or {tg : Expr} {t u : TG} (h : PG X tg t) (k : PG X tg u) : PG X tg (fun v σ H Q => t v σ H Q ∨ u v σ H Q) := ⟨fun pins s σ H v w Q I r q => by
  rcases q with q | q
  · exact h.run pins s σ H v w Q I r q
  · exact k.run pins s σ H v w Q I r q⟩
theorem TPost.on (hl : al.length = L.length) (s : Stp X.K X.mg H al T L H1 al1 T L1) {sl : List Nat} {r : Res En} {Q : St → Hp → Prop} (h : TPost X sl σ H al T L r Q) : TPost X sl σ H1 al1 T L1 r Q := by
  cases r with
  | ok env' L' => exact fun σ' H' al' t c => h σ' H' al' (Stp.trans hl s t) c
  | exc c f L' => exact h
  | stuck => exact h
def tN (i : Nat) : Va → En → LH → Res En := fun w env L => .ok (env.set i (some w)) L
theorem sg_name {i : Nat} {x : Str} {pos : Pos} (hN : X.N.Nodup) (hi : X.N[i]? = some x) (hx : Loc X.env.scope x) (hf : X.fn x = true ∨ X.env.scope.names.lookup x = some .local := by first | exact .inl rfl | exact .inr rfl | assumption) : SG X [i] (.Name x pos) (tN i) :=
  PG.imp (pg_name hN hi hx hf) fun v σ H Q ⟨w, env, L, al, T, c, r, h⟩ => h _ H al (Stp.refl c.rel) (c.put r) (Agr.put i _ σ)
def tgNil : List Va → En → LH → Res En := fun ws env L => match ws with
  | [] => .ok env L
  | _ => .stuck
def tgCons (f : Va → En → LH → Res En) (g : List Va → En → LH → Res En) : List Va → En → LH → Res En := fun ws env L => match ws with
  | w :: r => (f w env L).bind fun env1 L1 => g r env1 L1
  | [] => .stuck
theorem sgs_nil : SGs X [] [] tgNil := PGs.imp pgs_nil fun v σ H Q ⟨w, env, L, al, T, c, r, h⟩ => by
  unfold tgNil at h
  split at h
  · cases r
    exact ⟨rfl, h _ H al (Stp.refl c.rel) c (Agr.refl _ _)⟩
  · exact h.elim
theorem sgs_cons {e : Expr} {es : List Expr} {f : Va → En → LH → Res En} {g : List Va → En → LH → Res En} {sl sl' : List Nat} (h1 : SG X sl e f) (h2 : SGs X sl' es g) (hs : (assignEach (e :: es) X.env).map (·.2) = assign e X.env :: (assignEach es X.env).map (·.2) := by rfl) : SGs X (sl ++ sl') (e :: es) (tgCons f g) :=
  PGs.imp (pgs_cons h1 h2 hs) fun vs σ H Q ⟨ws, env, L, al, T, c, r, h⟩ => by
    unfold tgCons at h
    split at h
    · rename_i w rest
      cases r with
      | cons ra rb =>
        refine ⟨_, _, rfl, w, env, L, al, T, c, ra, ?_⟩
        revert h
        generalize f w env L = r1
        intro h
        cases r1 with
        | ok env1 L1 =>
          intro σ' H' al' s c' ag
          refine ⟨rest, env1, L1, al', T, c', s.rps rb, ?_⟩
          have h := TPost.on c.rel.len s h
          revert h
          show TPost X (sl ++ sl') σ H' al' T L1 (g rest env1 L1) Q → TPost X sl' σ' H' al' T L1 (g rest env1 L1) Q
          generalize g rest env1 L1 = r2
          intro h
          cases r2 with
          | ok env2 L2 => exact fun σ2 H2 al2 s2 c2 ag2 => h σ2 H2 al2 s2 c2 (ag.trans ag2)
          | exc _ _ _ => exact h
          | stuck => exact h
        | exc _ _ _ => exact h
        | stuck => exact h
    · exact h.elim
def tTupT (n : Nat) (g : List Va → En → LH → Res En) : Va → En → LH → Res En := fun w env L => match w.seq L with
  | some ws => if ws.length = n then g ws env L else .stuck
  | none => .stuck
theorem sg_tup {es : List Expr} {k : Nat} {pos : Pos} {g : List Va → En → LH → Res En} {n : Nat} {sl : List Nat} (hc : X.calm = true) (h : SGs X sl es g) (hn : (assignEach es X.env).length = n := by rfl) (hst : (assignEach es X.env).findIdx? (·.1) = none := by rfl) : SG X sl (.Tuple es k pos) (tTupT n g) :=
  PG.imp (PG.or (pg_tup hc h hn hst) (pg_lst hc h hn hst)) fun v σ H Q ⟨w, env, L, al, T, c, r, q⟩ => by
    unfold tTupT at q
    split at q
    · rename_i ws e
      obtain ⟨a, vs, rfl, sq, rr⟩ := seq_ok c.rel r e
      have l := Paired.length rr
      split at q
      · rename_i hl
        rcases sq with sq | sq
        · exact .inr ⟨a, vs, rfl, sq, l.trans hl, ws, env, L, al, T, c, rr, q⟩
        · exact .inl ⟨a, vs, rfl, sq, l.trans hl, ws, env, L, al, T, c, rr, q⟩
      · exact q.elim
    · exact q.elim
def sAsg (f : EF) (g : Va → En → LH → Res En) : SFn := fun env L => (f env L).then env fun w L1 => match g w env L1 with
  | .ok env1 L2 => .nx env1 L2
  | _ => .stuck
theorem ss_asg {tg e : Expr} {pos : Pos} {f : EF} {g : Va → En → LH → Res En} {sl : List Nat} (he : SE X Wx e f) (hg : SG X sl tg g) (hs : swapsWithSole [tg] e pos.line X.env = pure false := by rfl) (hw : swappedStores [tg] e X.env = pure none := by rfl)
    (h1 : (assignEach [tg] X.env).map (·.2) = [assign tg X.env] := by rfl) : SS X Wx (.Assign [tg] e pos) (sAsg f g) := by
  refine PS.imp (ps_asg he hg hs hw h1) ?_
  rintro D σ H ⟨env, L, al, T, c, h⟩
  refine sseq (R := RV X) c h fun v H1 w L1 al1 c1 s1 r1 h2 => ?_
  refine ⟨w, env, L1, al1, T, c1, r1, ?_⟩
  revert h2
  generalize g w env L1 = r2
  intro h2
  cases r2 with
  | ok env1 L2 => exact fun σ' H' al' s c' _ => h2 σ' H' al' s c'
  | exc _ _ _ => exact h2
  | stuck => exact h2
def sPar (i j : Nat) (fs : En → LH → Res (List Va)) : SFn := fun env L => (fs env L).then env fun ws L1 => match ws with
  | [w, u] => .nx ((env.set i (some w)).set j (some u)) L1
  | _ => .stuck
def sPar3 (i j k : Nat) (fs : En → LH → Res (List Va)) : SFn := fun env L => (fs env L).then env fun ws L1 => match ws with
  | [w, u, z] => .nx (((env.set i (some w)).set j (some u)).set k (some z)) L1
  | _ => .stuck
def tIx (f g : EF) : Va → En → LH → Res En := fun v env L => (f env L).bind fun w L1 => (g env L1).bind fun u L2 => match w with
  | .loc n => match L2[n]?, u with
    | some (some (.lst ws)), .d (.int i) => match ixN ws.length i with
      | some j => .ok env (L2.set n (some (.lst (ws.set j v))))
      | none => .stuck
    | some (some (.di ks)), .d (.int i) => if ks.length < sizeLine then .ok env (L2.set n (some (.di (aput ks i v)))) else .stuck
    | some (some (.di [])), .d (.tuple xs) => match intsOf xs with
      | some ns => .ok env (L2.set n (some (.dt [(ns, v)])))
      | none => .stuck
    | some (some (.dt ks)), .d (.tuple xs) => match intsOf xs with
      | some ns => if ks.length < sizeLine then .ok env (L2.set n (some (.dt (aput ks ns v)))) else .stuck
      | none => .stuck
    | _, _ => .stuck
  | _ => .stuck
where
  aput {κ α : Type} [DecidableEq κ] (ks : List (κ × α)) (k : κ) (v : α) : List (κ × α) := if ks.any (fun kv => decide (kv.1 = k)) then ks.map (fun kv => if kv.1 = k then (kv.1, v) else kv) else ks ++ [(k, v)]
end
end L2.HW
namespace L2.HW
open PySem PySem.Spec PyProof.Rows
section
variable {X : Cx} {Wx : WX}
abbrev aput {κ α : Type} [DecidableEq κ] (ks : List (κ × α)) (k : κ) (v : α) : List (κ × α) := tIx.aput ks k v
theorem PSet.or {t u : TSet} (h : PSet X t) (k : PSet X u) : PSet X (fun o i v H Q => t o i v H Q ∨ u o i v H Q) := by
  intro pins s σ H o i v ov iv w Q I r1 r2 r3 q
  rcases q with q | q
  · exact h pins s σ H o i v ov iv w Q I r1 r2 r3 q
  · exact k pins s σ H o i v ov iv w Q I r1 r2 r3 q
def rSetD : TSet := fun o i v H Q => ∃ a H', o = .ref a ∧ DPut H a i v H' ∧ Q H'
theorem set_dict (hu : X.A.units + 1 < cLine) : PSet X rSetD := by
  intro pins s σ H o i v ov iv u Q I ro ri rv h
  obtain ⟨a, H', rfl, g, q⟩ := h
  obtain rfl : ov = Value.ref a := ro
  exact d_setItem hu I g ri rv fun s' I' => ⟨H', I', q⟩
def rSetD0 : TSet := fun o i v H Q => ∃ a b k, o = .ref a ∧ i = .ref b ∧ H a = some (.dK []) ∧ H b = some (.tup (k.map kV)) ∧ Q (upd H a (.dT [(k, v)]))
theorem set_dict0 (hu : X.A.units + 1 < cLine) : PSet X rSetD0 := by
  intro pins s σ H o i v ov iv u Q I ro ri rv h
  obtain ⟨a, b, k, rfl, rfl, h1, h2, q⟩ := h
  obtain rfl : ov = Value.ref a := ro
  obtain ⟨z, y, vs, rk, ob, es, ep, e1, e2, e3, e4, e5, e6⟩ := dk_of I.hok h1
  have hvs : vs = [] := by cases rk; rfl
  subst hvs
  have hes : es.toList = [] := by
    generalize es.toList = el at e5
    cases e5
    rfl
  have I' : Inv X pins σ (upd H a (.dT [])) s := I.write (t' := s.toks) (h' := s.heap) (by rw [h1]; trivial) (.inl rfl) (fun _ _ _ e => e) ⟨_, e1⟩
    ⟨Nat.zero_le _, y, [], .nil, ob, es, ep, e1, e2, e3, by rw [hes]; rfl, List.nodup_nil⟩
  have g : DPut (upd H a (.dT [])) a (.ref b) v (upd (upd H a (.dT [])) a (.dT (putK [] k v))) := DPut.t upd_same (by
    rw [upd_ne]
    · exact h2
    · rintro rfl; rw [h1] at h2; cases h2) (by rw [sizeLine_eq]; decide)
  refine d_setItem hu I' g ri rv fun s' I2 => ⟨_, I2, ?_⟩
  rw [upd_upd]
  exact q
theorem rps_set {K : PySem.W.Frag} {mg : Str → Option Value} {M : Hp} {al : List Addr} {v : V} {w : Va} (q : Rp K mg M al v w) : ∀ {vs : List V} {ws : List Va} (n : Nat), Rps K mg M al vs ws → Rps K mg M al (vs.set n v) (ws.set n w)
  | _, _, _, .nil => .nil
  | _, _, 0, .cons _ b => .cons q b
  | _, _, n + 1, .cons a b => .cons a (rps_set q n b)
theorem put_pair {κ κ' α : Type} [DecidableEq κ] [DecidableEq κ'] {f : κ → κ'} (hf : ∀ a b, f a = f b → a = b) {R : V → α → Prop} {ks : List (κ' × V)} {as : List (κ × α)} (r : Paired (fun (p : κ' × V) (q : κ × α) => p.1 = f q.1 ∧ R p.2 q.2) ks as) (k : κ) {v : V} {w : α} (q : R v w) :
    Paired (fun (p : κ' × V) (q : κ × α) => p.1 = f q.1 ∧ R p.2 q.2) (putK ks (f k) v) (aput as k w) := by
  have hany : (ks.any fun kv => decide (kv.1 = f k)) = as.any fun kv => decide (kv.1 = k) := by
    induction r with
    | nil => rfl
    | @cons p q ps qs h _ ih =>
      rw [List.any_cons, List.any_cons, ih]
      congr 1
      rw [h.1]
      by_cases e : q.1 = k
      · simp [e]
      · have e' : ¬ f q.1 = f k := fun z => e (hf _ _ z)
        rw [decide_eq_false e, decide_eq_false e']
  unfold putK aput tIx.aput
  rw [hany]
  by_cases c : (as.any fun kv => decide (kv.1 = k)) = true
  · rw [if_pos c, if_pos c]
    clear hany c
    induction r with
    | nil => exact .nil
    | @cons p q' ps qs h _ ih =>
      refine .cons ?_ ih
      show ((if p.1 = f k then (p.1, v) else p).1 = f (if q'.1 = k then (q'.1, w) else q').1 ∧ R (if p.1 = f k then (p.1, v) else p).2 (if q'.1 = k then (q'.1, w) else q').2)
      by_cases e : q'.1 = k
      · rw [if_pos e, if_pos (by rw [h.1, e])]
        exact ⟨by rw [h.1], q⟩
      · rw [if_neg e, if_neg (by rw [h.1]; exact fun z => e (hf _ _ z))]
        exact h
  · rw [if_neg c, if_neg c]
    clear hany c
    induction r with
    | nil => exact .cons ⟨rfl, q⟩ .nil
    | cons h _ ih => exact .cons h ih
theorem sg_ix {o i : Expr} {f g : EF} {pos : Pos} (hu : X.A.units + 1 < cLine) (ho : SE X (fun _ _ _ _ => False) o f) (hi : SE X (fun _ _ _ _ => False) i g)
    (ha : ∀ v, assign (.Subscript o i pos) X.env v = (do
      let ov ← holding [v] (eval o X.env)
      let iv ← holding [v, ov] (eval i X.env)
      standAt pos
      holding [v, ov, iv] (setItem ov iv v)
      release [v, ov, iv] []) := by intro _; rfl) : SG X [] (.Subscript o i pos) (tIx f g) := by
  refine PG.imp (pg_sub ho hi (PSet.or set_list (PSet.or (set_dict hu) (set_dict0 hu))) ha) ?_
  rintro v σ H Q ⟨w, env, L, al, T, c, r, h⟩
  unfold tIx at h
  have e1 : GPost X (fun _ _ _ _ => False) σ H al T L (RV X) (f env L) fun o H1 => Rdg X (fun _ _ _ _ => False) (RV X) g σ H1 fun i H2 => (fun o i v H Q => rSetL o i v H Q ∨ rSetD o i v H Q ∨ rSetD0 o i v H Q) o i v H2 fun H3 => Q σ H3 := by
    revert h
    generalize f env L = r1
    intro h
    cases r1 with
    | stuck => exact h
    | exc _ _ _ => exact h.elim
    | ok wo L1 =>
      intro ov H1 al1 s1 ro
      have c1 := c.stp s1
      refine ⟨env, L1, al1, T, c1, ?_⟩
      simp only [Res.bind_ok] at h
      revert h
      generalize g env L1 = r2
      intro h
      cases r2 with
      | stuck => exact h
      | exc _ _ _ => exact h.elim
      | ok wi L2 =>
        intro iv H2 al2 s2 ri
        have c2 := c1.stp s2
        have s12 := Stp.trans c.rel.len s1 s2
        have rv := s12.rp r
        have ro2 := s2.rp ro
        have h3 := TPost.on c.rel.len s12 h
        clear h
        simp only [Res.bind_ok] at h3
        split at h3
        · rename_i n
          cases ro2 with
          | @loc _ a e2 =>
            split at h3
            · rename_i ws i e4
              have ei := dq_int (rp_d ri)
              obtain ⟨a', e3, vs, e5, e6⟩ := c2.rel.cell n _ e4
              rw [e2] at e3; cases e3
              split at h3
              · rename_i j ej
                have st := c2.rel.write (o := .lst (vs.set j v)) (ob' := .lst (ws.set j w)) e2 e4 ⟨_, upd_same, rps_set rv j e6⟩
                exact .inl ⟨a, vs, i, j, rfl, ei, e5, by rw [Paired.length e6]; exact ej, h3 _ _ _ st (c2.stp st) (Agr.refl _ _)⟩
              · exact h3.elim
            · rename_i ks i e4
              have ei := dq_int (rp_d ri)
              obtain ⟨a', e3, vs, e5, e6⟩ := c2.rel.cell n _ e4
              rw [e2] at e3; cases e3
              split at h3
              · rename_i hl
                have st := c2.rel.write (o := .dK (putK vs (Sum.inl i) v)) (ob' := .di (aput ks i w)) e2 e4 ⟨_, upd_same, put_pair (f := (Sum.inl : Int → Key)) inl_inj e6 i rv⟩
                exact .inr (.inl ⟨a, _, rfl, by rw [ei]; exact DPut.k (k := Sum.inl i) e5 (by rw [Paired.length e6]; exact hl), h3 _ _ _ st (c2.stp st) (Agr.refl _ _)⟩)
              · exact h3.elim
            · rename_i xs e4
              obtain ⟨a', e3, vs, e5, e6⟩ := c2.rel.cell n _ e4
              rw [e2] at e3; cases e3
              cases e6
              split at h3
              · rename_i ns en
                rw [intsOf_eq en] at ri
                obtain ⟨b, us, rfl, f1, d1⟩ := dq_tup (rp_d ri)
                have g1 := dq_ints d1
                subst g1
                have st := c2.rel.write (o := .dT [(ns.map Sum.inl, v)]) (ob' := .dt [(ns, w)]) e2 e4 ⟨_, upd_same, .cons ⟨rfl, rv⟩ .nil⟩
                exact .inr (.inr ⟨a, b, ns.map Sum.inl, rfl, rfl, e5, by rw [List.map_map]; exact (of_mask f1).2, h3 _ _ _ st (c2.stp st) (Agr.refl _ _)⟩)
              · exact h3.elim
            · rename_i ks xs e4
              obtain ⟨a', e3, vs, e5, e6⟩ := c2.rel.cell n _ e4
              rw [e2] at e3; cases e3
              split at h3
              · rename_i ns en
                rw [intsOf_eq en] at ri
                obtain ⟨b, us, rfl, f1, d1⟩ := dq_tup (rp_d ri)
                have g1 := dq_ints d1
                subst g1
                split at h3
                · rename_i hl
                  have st := c2.rel.write (o := .dT (putK vs (ns.map Sum.inl) v)) (ob' := .dt (aput ks ns w)) e2 e4 ⟨_, upd_same, put_pair (f := fun ns : List Int => ns.map (Sum.inl : Int → Key)) map_inl_inj e6 ns rv⟩
                  exact .inr (.inl ⟨a, _, rfl, DPut.t (k := ns.map Sum.inl) e5 (by rw [List.map_map]; exact (of_mask f1).2) (by rw [Paired.length e6]; exact hl), h3 _ _ _ st (c2.stp st) (Agr.refl _ _)⟩)
                · exact h3.elim
              · exact h3.elim
            · exact h3.elim
        · exact h3.elim
  exact ⟨env, L, al, T, c, e1⟩
end
end L2.HW
namespace L2.HW
open PySem PySem.Spec PyProof.Rows
section
variable {K : PySem.W.Frag} {mg : Str → Option Value} {H H1 : Hp} {al al1 T T1 : List Addr} {L L1 : LH}
def lockL (lk : Option Nat) (L : LH) : LH := match lk with
  | some n => L.set n none
  | none => L
def openL (lk : Option Nat) (L0 L : LH) : LH := match lk with
  | some n => match L0[n]? with
    | some c => L.set n c
    | none => L
  | none => L
@[simp] theorem lockL_none (L : LH) : lockL none L = L := (rfl)
@[simp] theorem openL_none (L0 L : LH) : openL none L0 L = L := (rfl)
theorem Rel.lock (r : Rel K mg H al T L) (lk : Option Nat) : Rel K mg H al T (lockL lk L) := by
  cases lk with
  | none => exact r
  | some n =>
    refine ⟨by simp [lockL, r.len], r.nd, r.dis, r.trk, fun k o e => ?_⟩
    unfold lockL at e
    by_cases z : n = k
    · subst z
      by_cases hn : n < L.length
      · rw [List.getElem?_set_self hn] at e; cases e
      · rw [List.getElem?_eq_none (by simpa using hn)] at e; cases e
    · rw [List.getElem?_set_ne z] at e
      exact r.cell k o e
theorem Conf.lock {σ : St} {env : En} (c : Conf K mg σ H env L al T) (lk : Option Nat) : Conf K mg σ H env (lockL lk L) al T := ⟨c.rel.lock lk, c.len, c.slot⟩
theorem Stp.opened (r0 : Rel K mg H al T L) {lk : Option Nat} (s : Stp K mg H al T (lockL lk L) H1 al1 T1 L1) : Stp K mg H al T L H1 al1 T1 (openL lk L L1) := by
  cases lk with
  | none => exact s
  | some n =>
    simp only [openL]
    cases e0 : L[n]? with
    | none =>
      have : lockL (some n) L = L := by
        unfold lockL
        apply List.ext_getElem?
        intro k
        by_cases z : n = k
        · subst z
          rw [e0, List.getElem?_eq_none]
          have := List.getElem?_eq_none_iff.mp e0
          simpa using this
        · rw [List.getElem?_set_ne z]
      rw [this] at s
      simpa [e0] using s
    | some c =>
      have hn : n < L.length := (List.getElem?_eq_some_iff.mp e0).1
      have lkn : (lockL (some n) L)[n]? = some none := by unfold lockL; rw [List.getElem?_set_self hn]
      have l1n := s.lck n lkn
      have hn1 : n < L1.length := (List.getElem?_eq_some_iff.mp l1n).1
      have alvS : ∀ b, Alv al (lockL (some n) L) b → Alv al L b := fun b ⟨k, o, e1, e2⟩ => ⟨k, o, e1, by
        unfold lockL at e2
        by_cases z : n = k
        · subst z; rw [List.getElem?_set_self hn] at e2; cases e2
        · rw [List.getElem?_set_ne z] at e2; exact e2⟩
      obtain ⟨be, eb, fb⟩ := s.ext
      simp only
      refine ⟨⟨by simp [s.rel.len], s.rel.nd, s.rel.dis, s.rel.trk, fun k o e => ?_⟩, s.ext, s.text, fun b u e z => s.frame b u e fun q => z (alvS b q), s.stay, fun k e => ?_, fun k o e => ?_⟩
      · by_cases z : n = k
        · subst z
          rw [List.getElem?_set_self hn1] at e
          cases e
          obtain ⟨a, e1, q⟩ := r0.cell n o e0
          refine ⟨a, s.ale _ _ e1, ObR.le s.le s.ale (fun u h => s.frame a u h fun ⟨k, o', e2, e3⟩ => ?_) q⟩
          have : k = n := by
            obtain ⟨h1, h2⟩ := List.getElem?_eq_some_iff.mp e1
            obtain ⟨h3, h4⟩ := List.getElem?_eq_some_iff.mp e2
            exact (List.getElem_inj r0.nd).mp (h4.trans h2.symm)
          subst this
          rw [lkn] at e3; cases e3
        · rw [List.getElem?_set_ne z] at e
          exact s.rel.cell k o e
      · by_cases z : n = k
        · subst z
          rw [List.getElem?_set_self hn1]
          rw [e0] at e; cases e; rfl
        · rw [List.getElem?_set_ne z]
          exact s.lck k (by unfold lockL; rw [List.getElem?_set_ne z]; exact e)
      · by_cases z : n = k
        · subst z
          rw [List.getElem?_set_self hn1]
          rw [e0] at e; cases e; exact ⟨_, rfl⟩
        · rw [List.getElem?_set_ne z]
          exact s.alv k o (by unfold lockL; rw [List.getElem?_set_ne z]; exact e)
theorem Stp.updT {D : Addr} {o : HO} (hD : H D = none) (s : Stp K mg H al T L H1 al1 (D :: T) L1) : Stp K mg H al T L (upd H1 D o) al1 (D :: T) L1 := by
  have r := s.rel
  have m : mask (upd H1 D o) (al1 ++ (D :: T)) = mask H1 (al1 ++ (D :: T)) := mask_in (by simp)
  refine ⟨⟨r.len, r.nd, r.dis, fun b h => ?_, fun k ob e => ?_⟩, s.ext, s.text, fun b u e z => ?_, fun b e => ?_, s.lck, s.alv⟩
  · by_cases z : b = D
    · subst z; rw [upd_same]; simp
    · rw [upd_ne z]; exact r.trk b h
  · rw [m]
    obtain ⟨a, e1, q⟩ := r.cell k ob e
    have : a ≠ D := by
      rintro rfl
      exact r.dis a (List.mem_of_getElem? e1) List.mem_cons_self
    exact ⟨a, e1, ObR.le (Le.refl _) (ALe.refl _) (fun _ z => by rw [upd_ne this]; exact z) q⟩
  · rw [upd_ne]
    · exact s.frame b u e z
    · rintro rfl; rw [hD] at e; cases e
  · by_cases z : b = D
    · subst z; rw [upd_same]; simp
    · rw [upd_ne z]; exact s.stay b e
end

def Wlk (K : PySem.W.Frag) (mg : Str → Option Value) (H : Hp) (al T : List Addr) (L : LH) (J : It) (ws : List Va) : Prop :=
  ∀ H1 al1 T1 L1, Stp K mg H al T L H1 al1 T1 L1 → J.stop ws.length H1 ∧ ∀ i w, ws[i]? = some w → J.go i H1 ∧ ∀ x H2, J.yld i H1 x H2 → Stp K mg H1 al1 T1 L1 H2 al1 T1 L1 ∧ Rp K mg (mask H2 (al1 ++ T1)) al1 x w
abbrev Srcf := En → LH → Res (List Va × Option Nat)
def IPost (X : Cx) (Wx : WX) (σ : St) (H : Hp) (al T : List Addr) (L : LH) (r : Res (List Va × Option Nat)) (R : It → Hp → Prop) : Prop := match r with
  | .ok p L1 => ∀ J H1 al1, Stp X.K X.mg H al T L H1 al1 T L1 → Wlk X.K X.mg H1 al1 T (lockL p.2 L1) J p.1 → R J H1
  | .exc c f L1 => ∀ cls d H' al', Stp X.K X.mg H al T L H' al' T L1 → ExR X.mg (mask H' (al' ++ T)) c f cls d → Wx cls d σ H'
  | .stuck => False
def SI (X : Cx) (Wx : WX) (tg iter : Expr) (s : Srcf) : Prop := PI X tg iter fun σ H R => ∃ env L al T, Conf X.K X.mg σ H env L al T ∧ IPost X Wx σ H al T L (s env L) R
theorem PI.imp {X : Cx} {tg iter : Expr} {t t' : TI} (h : PI X tg iter t) (k : ∀ σ H R, t' σ H R → t σ H R) : PI X tg iter t' := ⟨fun pins s σ H R I q => h.run pins s σ H R I (k σ H R q)⟩
theorem PI.or {X : Cx} {tg iter : Expr} {t u : TI} (h : PI X tg iter t) (k : PI X tg iter u) : PI X tg iter (fun σ H R => t σ H R ∨ u σ H R) := ⟨fun pins s σ H R I q => by
  rcases q with q | q
  · exact h.run pins s σ H R I q
  · exact k.run pins s σ H R I q⟩
section
variable {X : Cx} {Wx : WX}
def srcOf (w : Va) (L : LH) : Option (List Va × Option Nat) := match w with
  | .loc n => match L[n]? with
    | some (some (.lst ws)) => some (ws, some n)
    | _ => none
  | .d (.list ds) => some (ds.map .d, none)
  | .d (.tuple ds) => some (ds.map .d, none)
  | .tup ws => some (ws, none)
  | _ => none
def srcV (f : EF) : Srcf := fun env L => (f env L).bind fun w L1 => match srcOf w L1 with
  | some p => .ok p L1
  | none => .stuck
theorem rps_get {K : PySem.W.Frag} {mg : Str → Option Value} {M : Hp} {al : List Addr} : ∀ {vs : List V} {ws : List Va} {i : Nat} {w : Va}, Rps K mg M al vs ws → ws[i]? = some w → ∃ v, vs[i]? = some v ∧ Rp K mg M al v w
  | _, _, _, _, .nil, e => by simp at e
  | _, _, 0, _, .cons a _, e => by simp at e; subst e; exact ⟨_, rfl, a⟩
  | _, _, i + 1, _, .cons _ b, e => by simpa using rps_get (i := i) b (by simpa using e)
theorem pi_seq {tg l : Expr} {tl : TE} (hl : PE X l tl) : PI X tg l (fun σ H R => tl σ H fun x H1 => ∃ a, x = .ref a ∧ ((∃ xs, SqL X.K H1 a xs) ∧ R (Itl X.K a) H1 ∨ (∃ xs, SqT X.K H1 a xs) ∧ R (Itt X.K a) H1)) := by
  refine ⟨fun pins s σ H R I h => ?_⟩
  refine thn (hl.run pins s σ H _ I h) fun v s1 ⟨x, H1, I1, r1, q1⟩ => ?_
  obtain ⟨a, e, q⟩ := q1
  subst e
  cases r1
  rcases q with ⟨⟨xs, hq⟩, q⟩ | ⟨⟨xs, hq⟩, q⟩
  · obtain ⟨its, rv, p, hz⟩ := I1.list hq
    refine wpAny_pyIter_list p.isList ?_
    refine ⟨s1.heap.objs.size, [s1.heap.objs.size], _, _, H1, rfl, I1.kept (t' := s1.toks) fun b o e => Heap.get?_push_of_some _ e, turn_list a _, ⟨_, Heap.get?_push_size _ rfl, rfl, rfl⟩, fun b hb => ?_, q⟩
    have e : b = s1.heap.objs.size := by simpa using hb
    subst e
    exact I1.fpOk (Nat.le_refl _) (I1.hok.fresh (Nat.le_refl _))
  · obtain ⟨its, rv, p, hz⟩ := I1.tuple hq
    refine wpAny_pyIter_tuple (show s1.heap.IsTuple a its.toArray from p) ?_
    refine ⟨s1.heap.objs.size, [s1.heap.objs.size], _, _, H1, rfl, I1.kept (t' := s1.toks) fun b o e => Heap.get?_push_of_some _ e, turn_tuple a _, ⟨_, Heap.get?_push_size _ rfl, rfl, rfl⟩, fun b hb => ?_, q⟩
    have e : b = s1.heap.objs.size := by simpa using hb
    subst e
    exact I1.fpOk (Nat.le_refl _) (I1.hok.fresh (Nat.le_refl _))
section
variable {K : PySem.W.Frag} {mg : Str → Option Value} {H : Hp} {al T : List Addr} {L : LH}
theorem wlk_lst {a : Addr} {vs : List V} {ws : List Va} (rel : Rel K mg H al T L) (h : H a = some (.lst vs)) (na : ¬ Alv al L a) (r : Rps K mg (mask H (al ++ T)) al vs ws) : Wlk K mg H al T L (Itl K a) ws := by
  intro H1 al1 T1 L1 s
  have h1 := s.frame a _ h na
  have r1 := s.rps r
  refine ⟨⟨vs, SqL.of h1, by rw [Paired.length r1]; exact Nat.le_refl _⟩, fun i w e => ?_⟩
  obtain ⟨v, e2, q⟩ := rps_get r1 e
  refine ⟨⟨vs, v, SqL.of h1, e2⟩, fun x H2 y => ?_⟩
  obtain ⟨rfl, y⟩ := y
  have := y vs (SqL.of h1)
  rw [e2] at this; cases this
  exact ⟨Stp.refl s.rel, q⟩
theorem wlk_tup {a : Addr} {vs : List V} {ws : List Va} (rel : Rel K mg H al T L) (h : mask H (al ++ T) a = some (.tup vs)) (r : Rps K mg (mask H (al ++ T)) al vs ws) : Wlk K mg H al T L (Itt K a) ws := by
  intro H1 al1 T1 L1 s
  have h1 := (of_mask (s.le _ _ h)).2
  have r1 := s.rps r
  refine ⟨⟨vs, SqT.of h1, by rw [Paired.length r1]; exact Nat.le_refl _⟩, fun i w e => ?_⟩
  obtain ⟨v, e2, q⟩ := rps_get r1 e
  refine ⟨⟨vs, v, SqT.of h1, e2⟩, fun x H2 y => ?_⟩
  obtain ⟨rfl, y⟩ := y
  have := y vs (SqT.of h1)
  rw [e2] at this; cases this
  exact ⟨Stp.refl s.rel, q⟩
theorem wlk_range {lo : Int} {n : Nat} (rel : Rel K mg H al T L) : Wlk K mg H al T L (Itr lo n) ((List.range n).map fun i => .d (.int (lo + (i : Nat)))) := by
  intro H1 al1 T1 L1 s
  refine ⟨by show n ≤ _; simp, fun i w e => ?_⟩
  rw [List.getElem?_map] at e
  by_cases hi : i < n
  · rw [List.getElem?_range hi] at e
    cases e
    refine ⟨hi, fun x H2 y => ?_⟩
    obtain ⟨rfl, rfl⟩ := y
    exact ⟨Stp.refl s.rel, .d (.int _)⟩
  · rw [List.getElem?_eq_none (by simpa using hi)] at e; cases e
end
theorem not_alv_mask {H : Hp} {al T : List Addr} {L : LH} {a : Addr} {o : HO} (e : mask H (al ++ T) a = some o) : ¬ Alv al L a := fun z => (of_mask e).1 (List.mem_append_left _ z.mem)
theorem si_v {tg e : Expr} {f : EF} (h : SE X Wx e f) : SI X Wx tg e (srcV f) := by
  refine PI.imp (pi_seq h) ?_
  rintro σ H R ⟨env, L, al, T, c, q⟩
  refine ⟨env, L, al, T, c, ?_⟩
  unfold srcV at q
  revert q
  generalize f env L = r
  intro q
  cases r with
  | stuck => exact q
  | exc c f L1 => exact q
  | ok w L1 =>
    intro v H1 al1 s1 r1
    simp only [Res.bind_ok] at q
    cases e : srcOf w L1 with
    | none => rw [e] at q; exact q.elim
    | some p =>
      rw [e] at q
      cases w with
      | loc n =>
        simp only [srcOf] at e
        split at e
        · rename_i ws e1
          cases e
          obtain ⟨a, vs, rfl, ea, e3, e4⟩ := loc_lst s1.rel r1 e1
          refine ⟨a, rfl, .inl ⟨⟨vs, SqL.of e3⟩, q _ H1 al1 s1 ?_⟩⟩
          refine wlk_lst (s1.rel.lock _) e3 (fun ⟨k, o, h1, h2⟩ => ?_) e4
          have hn : n < L1.length := (List.getElem?_eq_some_iff.mp e1).1
          have : k = n := by
            obtain ⟨h3, h4⟩ := List.getElem?_eq_some_iff.mp ea
            obtain ⟨h5, h6⟩ := List.getElem?_eq_some_iff.mp h1
            exact (List.getElem_inj s1.rel.nd).mp (h6.trans h4.symm)
          subst this
          unfold lockL at h2
          simp only at h2
          rw [List.getElem?_set_self hn] at h2
          cases h2
        · cases e
      | d y =>
        cases r1 with
        | d r1 =>
          cases r1 with
          | lst e1 e2 => cases e; exact ⟨_, rfl, .inl ⟨⟨_, SqL.of (of_mask e1).2⟩, q _ H1 al1 s1 (wlk_lst s1.rel (of_mask e1).2 (not_alv_mask e1) (all_dq e2))⟩⟩
          | tup e1 e2 => cases e; exact ⟨_, rfl, .inr ⟨⟨_, SqT.of (of_mask e1).2⟩, q _ H1 al1 s1 (wlk_tup s1.rel e1 (all_dq e2))⟩⟩
          | non => cases e
          | bl _ => cases e
          | int _ => cases e
          | str _ => cases e
      | tup us =>
        cases e
        cases r1 with
        | tup e1 e2 => exact ⟨_, rfl, .inr ⟨⟨_, SqT.of (of_mask e1).2⟩, q _ H1 al1 s1 (wlk_tup s1.rel e1 e2)⟩⟩
      | dct _ => cases e
      | exc _ _ => cases e
      | scr ns => cases e
end
end L2.HW
namespace L2.HW
open PySem PySem.Spec PyProof.Rows
section
variable {X : Cx} {Wx : WX}
def rngV (lo : Int) (n : Nat) : List Va := (List.range n).map fun i => .d (.int (lo + (i : Nat)))
def srcR1 (fs : En → LH → Res (List Va)) : Srcf := fun env L => (fs env L).bind fun ws L1 => match ws with
  | [.d (.int j)] => if -(2 ^ 62) ≤ j ∧ j < 2 ^ 62 then .ok (rngV 0 j.toNat, none) L1 else .stuck
  | _ => .stuck
def srcR2 (fs : En → LH → Res (List Va)) : Srcf := fun env L => (fs env L).bind fun ws L1 => match ws with
  | [.d (.int i), .d (.int j)] => if -(2 ^ 62) ≤ i ∧ i < 2 ^ 62 ∧ -(2 ^ 62) ≤ j ∧ j < 2 ^ 62 then .ok (rngV i (j - i).toNat, none) L1 else .stuck
  | _ => .stuck
theorem iseq {α β : Type} {R : Hp → List Addr → β → α → Prop} {σ : St} {H : Hp} {al T : List Addr} {L : LH} {env : En} {f : En → LH → Res α} {k : α → LH → Res (List Va × Option Nat)} {Q : It → Hp → Prop} {Q' : β → Hp → Prop}
    (c : Conf X.K X.mg σ H env L al T) (h : IPost X Wx σ H al T L ((f env L).bind k) Q)
    (hk : ∀ b H1 a L1 al1, Conf X.K X.mg σ H1 env L1 al1 T → Stp X.K X.mg H al T L H1 al1 T L1 → R (mask H1 (al1 ++ T)) al1 b a → IPost X Wx σ H1 al1 T L1 (k a L1) Q → Q' b H1) : Rdg X Wx R f σ H Q' := by
  refine ⟨env, L, al, T, c, ?_⟩
  revert h
  generalize f env L = r
  intro g
  cases r with
  | stuck => exact g
  | exc c f L1 => exact g
  | ok b L1 =>
    intro b' H1 al1 s1 q1
    refine hk b' H1 b L1 al1 (c.stp s1) s1 q1 ?_
    simp only [Res.bind_ok] at g
    revert g
    generalize k b L1 = r2
    intro g
    cases r2 with
    | stuck => exact g
    | exc c' f L2 => exact fun cls d H' al' t q => g cls d H' al' (Stp.trans c.rel.len s1 t) q
    | ok o L2 => exact fun J H' al' t q => g J H' al' (Stp.trans c.rel.len s1 t) q
theorem si_r1 {tg a : Expr} {fs : En → LH → Res (List Va)} {p pos : Pos} (hg : Gl X "range") (hm : X.mg "range" = none) (ha : SA X Wx [a] fs) (hs : starEach [a] X.env = [(false, eval a X.env)] := by rfl) : SI X Wx tg (.Call (.Name "range" p) [a] [] pos) (srcR1 fs) := by
  refine PI.imp (pi_range1 hg hm ha hs) ?_
  rintro σ H R ⟨env, L, al, T, c, h⟩
  refine iseq (R := RVs X) c h fun vs H1 ws L1 al1 c1 s1 r1 h1 => ?_
  split at h1
  · rename_i j
    obtain ⟨v, rfl, q⟩ := rps_1 r1
    split at h1
    · rename_i hb
      refine ⟨j, by rw [dq_int (rp_d q)], hb.1, hb.2, h1 _ H1 al1 (Stp.refl c1.rel) (wlk_range (lo := 0) c1.rel)⟩
    · exact h1.elim
  · exact h1.elim
theorem si_r2 {tg a b : Expr} {fs : En → LH → Res (List Va)} {p pos : Pos} (hg : Gl X "range") (hm : X.mg "range" = none) (ha : SA X Wx [a, b] fs) (hs : starEach [a, b] X.env = [(false, eval a X.env), (false, eval b X.env)] := by rfl) (hs2 : starEach [b] X.env = [(false, eval b X.env)] := by rfl) :
    SI X Wx tg (.Call (.Name "range" p) [a, b] [] pos) (srcR2 fs) := by
  refine PI.imp (pi_range2 hg hm ha hs hs2) ?_
  rintro σ H R ⟨env, L, al, T, c, h⟩
  refine iseq (R := RVs X) c h fun vs H1 ws L1 al1 c1 s1 r1 h1 => ?_
  split at h1
  · rename_i i j
    obtain ⟨v, y, rfl, q, q2⟩ := rps_2 r1
    split at h1
    · rename_i hb
      refine ⟨i, j, by rw [dq_int (rp_d q), dq_int (rp_d q2)], hb, h1 _ H1 al1 (Stp.refl c1.rel) (wlk_range (lo := i) c1.rel)⟩
    · exact h1.elim
  · exact h1.elim

def forL (g : Va → En → LH → Res En) (body : SFn) : List Va → En → LH → Out
  | [], env, L => .nx env L
  | w :: ws, env, L => match g w env L with
    | .ok env1 L1 => match body env1 L1 with
      | .nx env2 L2 => forL g body ws env2 L2
      | .ct env2 L2 => forL g body ws env2 L2
      | .bk env2 L2 => .nx env2 L2
      | o => o
    | _ => .stuck
def openOut (lk : Option Nat) (L0 : LH) : Out → Out
  | .nx env L => .nx env (openL lk L0 L)
  | .rt w L => .rt w (openL lk L0 L)
  | .rf o L => .rf o (openL lk L0 L)
  | .bk env L => .bk env (openL lk L0 L)
  | .ct env L => .ct env (openL lk L0 L)
  | .exc c f env L => .exc c f env (openL lk L0 L)
  | .stuck => .stuck
def sFor (s : Srcf) (g : Va → En → LH → Res En) (body : SFn) : SFn := fun env L => (s env L).then env fun p L1 => openOut p.2 L1 (forL g body p.1 env (lockL p.2 L1))
theorem SPost.opened {H1 H3 : Hp} {al1 al3 T : List Addr} {L1 L3 : LH} {lk : Option Nat} {r : Out} {D : Ends} (r0 : Rel X.K X.mg H1 al1 T L1) (s : Stp X.K X.mg H1 al1 T (lockL lk L1) H3 al3 T L3) (h : SPost X Wx H1 al1 T L1 (openOut lk L1 r) D) : SPost X Wx H3 al3 T L3 r D := by
  have hl : al1.length = (lockL lk L1).length := (r0.lock lk).len
  have op : ∀ {H' : Hp} {al' T' : List Addr} {L' : LH}, Stp X.K X.mg H3 al3 T L3 H' al' T' L' → Stp X.K X.mg H1 al1 T L1 H' al' T' (openL lk L1 L') := fun t => Stp.opened r0 (Stp.trans hl s t)
  cases r with
  | nx env' L' => exact fun σ' H' al' t c => h σ' H' al' (op t) ⟨(op t).rel, c.len, c.slot⟩
  | rt w L' => exact fun v H' al' t c => h v H' al' (op t) c
  | rf o L' => exact fun a H' al' ha t c => h a H' al' (s.back ha) (op t) c
  | bk env' L' => exact fun σ' H' al' t c => h σ' H' al' (op t) ⟨(op t).rel, c.len, c.slot⟩
  | ct env' L' => exact fun σ' H' al' t c => h σ' H' al' (op t) ⟨(op t).rel, c.len, c.slot⟩
  | exc c f env' L' => exact fun cls d σ' H' al' t c => h cls d σ' H' al' (op t) ⟨(op t).rel, c.len, c.slot⟩
  | stuck => exact h
theorem ss_for {tg iter : Expr} {body : List Stmt} {pos : Pos} {s : Srcf} {sl : List Nat} {g : Va → En → LH → Res En} {fb : SFn} (hp : PassesOwn (model X.prog X.w) X.A X.env X.xe) (hc : X.calm = true) (hi : SI X Wx tg iter s) (hg : SG X sl tg g) (hb : SB X Wx body fb)
    (hs : ∀ x, foldedSetIterable iter X.env x = pure x := by intro _; rfl) : SS X Wx (.For tg iter body [] pos) (sFor s g fb) := by
  refine PS.imp (ps_for hp hc hi hg hb hs) ?_
  rintro D σ H ⟨env, L, al, T, c, h⟩
  refine ⟨env, L, al, T, c, ?_⟩
  unfold sFor at h
  revert h
  generalize s env L = r
  intro h
  cases r with
  | stuck => exact h
  | exc c' f L1 => exact fun cls d H' al' t e => h cls d σ H' al' t (c.stp t) e
  | ok p L1 =>
    obtain ⟨ws, lk⟩ := p
    intro J H1 al1 s1 wk
    have c1 := c.stp s1
    have h := SPost.on c.rel.len s1 h
    simp only [then_ok] at h
    have hl : al1.length = (lockL lk L1).length := (c1.rel.lock lk).len
    let W : Nat → Nat → St → Hp → Prop := fun i m σ2 H2 => m = ws.length - i ∧ i ≤ ws.length ∧ ∃ env2 al2 L2, Stp X.K X.mg H1 al1 T (lockL lk L1) H2 al2 T L2 ∧ Conf X.K X.mg σ2 H2 env2 L2 al2 T ∧ SPost X Wx H1 al1 T L1 (openOut lk L1 (forL g fb (ws.drop i) env2 L2)) D
    refine ⟨W, ⟨ws.length, by simp, Nat.zero_le _, env, al1, lockL lk L1, Stp.refl (c1.rel.lock lk), c1.lock lk, h⟩, ?_⟩
    rintro i m σ2 H2 ⟨rfl, hi, env2, al2, L2, s2, c2, h2⟩
    obtain ⟨stop, item⟩ := wk H2 al2 T L2 s2
    by_cases hlt : i < ws.length
    · have ew : ws[i]? = some ws[i] := List.getElem?_eq_getElem hlt
      obtain ⟨go, yl⟩ := item i _ ew
      refine .inr ⟨go, W (i + 1) (ws.length - (i + 1)), fun σ' H' n => ⟨ws.length - (i + 1), by omega, n⟩, fun x H3 y => ?_⟩
      obtain ⟨s3, rx⟩ := yl x H3 y
      have c3 := c2.stp s3
      have s23 := Stp.trans hl s2 s3
      refine ⟨ws[i], env2, L2, al2, T, c3, rx, ?_⟩
      rw [List.drop_eq_getElem_cons hlt] at h2
      unfold forL at h2
      revert h2
      generalize g ws[i] env2 L2 = r1
      intro h2
      cases r1 with
      | stuck => exact h2
      | exc _ _ _ => exact h2
      | ok env4 L4 =>
        intro σ4 H4 al4 s4 c4 _
        have s24 := Stp.trans hl s23 s4
        refine ⟨env4, L4, al4, T, c4, ?_⟩
        simp only at h2
        revert h2
        generalize fb env4 L4 = r2
        intro h2
        have again : ∀ {env5 : En} {L5 : LH} {σ5 : St} {H5 : Hp} {al5 : List Addr}, SPost X Wx H1 al1 T L1 (openOut lk L1 (forL g fb (ws.drop (i + 1)) env5 L5)) D → Stp X.K X.mg H4 al4 T L4 H5 al5 T L5 → Conf X.K X.mg σ5 H5 env5 L5 al5 T → W (i + 1) (ws.length - (i + 1)) σ5 H5 :=
          fun {env5 L5 σ5 H5 al5} h5 s5 c5 => ⟨rfl, hlt, env5, al5, L5, Stp.trans hl s24 s5, c5, h5⟩
        cases r2 with
        | nx env5 L5 => exact fun σ5 H5 al5 s5 c5 => again h2 s5 c5
        | ct env5 L5 => exact fun σ5 H5 al5 s5 c5 => again h2 s5 c5
        | bk env5 L5 => exact SPost.opened (r := .nx env5 L5) c1.rel s24 h2
        | rt w L5 => exact SPost.opened (r := .rt w L5) c1.rel s24 h2
        | rf o L5 => exact SPost.opened (r := .rf o L5) c1.rel s24 h2
        | exc c' f' env5 L5 => exact SPost.opened (r := .exc c' f' env5 L5) c1.rel s24 h2
        | stuck => exact h2
    · have e : i = ws.length := by omega
      subst e
      rw [List.drop_length] at h2
      exact .inl ⟨stop, (SPost.opened (r := .nx env2 L2) c1.rel s2 h2) σ2 H2 al2 (Stp.refl c2.rel) c2⟩
def whileL (t : En → LH → Res Bool) (body : SFn) : Nat → En → LH → Out
  | 0, _, _ => .stuck
  | n + 1, env, L => (t env L).then env fun b L1 => if b then match body env L1 with
      | .nx env2 L2 => whileL t body n env2 L2
      | .ct env2 L2 => whileL t body n env2 L2
      | .bk env2 L2 => .nx env2 L2
      | o => o
    else .nx env L1
theorem whileL_more {t : En → LH → Res Bool} {body : SFn} : ∀ (n k : Nat) {env : En} {L : LH} {r : Out}, whileL t body n env L = r → r ≠ .stuck → whileL t body (n + k) env L = r
  | 0, _, _, _, _, h, hr => absurd h.symm hr
  | n + 1, k, env, L, r, h, hr => by
    rw [Nat.add_right_comm]
    unfold whileL at h ⊢
    cases e : t env L with
    | stuck => rw [e] at h; exact absurd h.symm hr
    | exc c f L1 => rw [e] at h; exact h
    | ok b L1 =>
      rw [e] at h
      simp only [then_ok] at h ⊢
      cases b with
      | false => exact h
      | true =>
        simp only [if_true] at h ⊢
        cases e2 : body env L1 with
        | nx env2 L2 => rw [e2] at h; exact whileL_more n k h hr
        | ct env2 L2 => rw [e2] at h; exact whileL_more n k h hr
        | bk env2 L2 => rw [e2] at h; exact h
        | rt w L2 => rw [e2] at h; exact h
        | rf o L2 => rw [e2] at h; exact h
        | exc c f env2 L2 => rw [e2] at h; exact h
        | stuck => rw [e2] at h; exact h
open Classical in
noncomputable def sWhile (t : En → LH → Res Bool) (body : SFn) : SFn := fun env L => if h : ∃ n, whileL t body n env L ≠ .stuck then whileL t body (Classical.choose h) env L else .stuck
theorem sWhile_eq {t : En → LH → Res Bool} {body : SFn} {n : Nat} {env : En} {L : LH} {r : Out} (h : whileL t body n env L = r) (hr : r ≠ .stuck) : sWhile t body env L = r := by
  have ex : ∃ n, whileL t body n env L ≠ .stuck := ⟨n, by rw [h]; exact hr⟩
  unfold sWhile
  rw [dif_pos ex]
  have h1 := Classical.choose_spec ex
  have h2 := whileL_more (Classical.choose ex) n (rfl : whileL t body (Classical.choose ex) env L = _) h1
  have h3 := whileL_more n (Classical.choose ex) h hr
  rw [Nat.add_comm] at h3
  rw [← h2, h3]
theorem ss_while {e : Expr} {body : List Stmt} {pos : Pos} {t : En → LH → Res Bool} {fb : SFn} (hp : PassesOwn (model X.prog X.w) X.A X.env X.xe) (ht : ST X Wx e t) (hb : SB X Wx body fb) : SS X Wx (.While e body [] pos) (sWhile t fb) := by
  refine PS.imp (ps_while hp ht hb) ?_
  rintro D σ H ⟨env, L, al, T, c, h⟩
  obtain ⟨n, h⟩ : ∃ n, SPost X Wx H al T L (whileL t fb n env L) D := by
    unfold sWhile at h
    split at h
    · exact ⟨_, h⟩
    · exact h.elim
  let W : Nat → St → Hp → Prop := fun m σ2 H2 => ∃ env2 al2 L2, Stp X.K X.mg H al T L H2 al2 T L2 ∧ Conf X.K X.mg σ2 H2 env2 L2 al2 T ∧ SPost X Wx H al T L (whileL t fb m env2 L2) D
  refine ⟨W, ⟨_, env, al, L, Stp.refl c.rel, c, h⟩, ?_⟩
  rintro m σ2 H2 ⟨env2, al2, L2, s2, c2, h2⟩
  have hl := c.rel.len
  have on : ∀ {H3 : Hp} {al3 : List Addr} {L3 : LH} {r : Out}, Stp X.K X.mg H2 al2 T L2 H3 al3 T L3 → SPost X Wx H al T L r D → SPost X Wx H3 al3 T L3 r D := fun s3 h => SPost.on hl (Stp.trans hl s2 s3) h
  cases m with
  | zero => exact h2.elim
  | succ m =>
    unfold whileL at h2
    refine ⟨env2, L2, al2, T, c2, ?_⟩
    revert h2
    generalize t env2 L2 = r1
    intro h2
    cases r1 with
    | stuck => exact h2
    | exc c' f L3 => exact fun cls d H' al' s e => h2 cls d σ2 H' al' (Stp.trans hl s2 s) (c2.stp s) e
    | ok b L3 =>
      intro b' H3 al3 s3 e
      obtain rfl : b' = b := e
      have c3 := c2.stp s3
      simp only [then_ok] at h2
      cases b' with
      | false => exact (on s3 h2) σ2 H3 al3 (Stp.refl c3.rel) c3
      | true =>
        rw [if_pos rfl] at h2 ⊢
        refine ⟨W m, fun σ' H' w => ⟨m, Nat.lt_succ_self m, w⟩, env2, L3, al3, T, c3, ?_⟩
        revert h2
        generalize fb env2 L3 = r2
        intro h2
        have s23 := Stp.trans hl s2 s3
        have again : ∀ {env5 : En} {L5 : LH} {σ5 : St} {H5 : Hp} {al5 : List Addr}, SPost X Wx H al T L (whileL t fb m env5 L5) D → Stp X.K X.mg H3 al3 T L3 H5 al5 T L5 → Conf X.K X.mg σ5 H5 env5 L5 al5 T → W m σ5 H5 :=
          fun {env5 L5 σ5 H5 al5} h5 s5 c5 => ⟨env5, al5, L5, Stp.trans hl s23 s5, c5, h5⟩
        cases r2 with
        | nx env5 L5 => exact fun σ5 H5 al5 s5 c5 => again h2 s5 c5
        | ct env5 L5 => exact fun σ5 H5 al5 s5 c5 => again h2 s5 c5
        | bk env5 L5 => exact on (r := .nx env5 L5) s3 h2
        | rt w L5 => exact on (r := .rt w L5) s3 h2
        | rf o L5 => exact on (r := .rf o L5) s3 h2
        | exc c' f' env5 L5 => exact on (r := .exc c' f' env5 L5) s3 h2
        | stuck => exact h2
end
end L2.HW
namespace L2.HW
open PySem PySem.Spec PyProof.Rows
section
variable {X : Cx} {Wx : WX}
abbrev FX : WX := fun _ _ _ _ => False
def STs (X : Cx) (Wx : WX) (ifs : List Expr) (t : En → LH → Res Bool) : Prop := PTs X ifs (Rdg X Wx RB t)
def tTrue : En → LH → Res Bool := fun _ L => .ok true L
theorem sts_nil : STs X Wx [] tTrue := ⟨fun pins s σ H Q I ⟨env, L, al, T, c, h⟩ => pts_nil.run pins s σ H Q I (gok c.rel h rfl)⟩
theorem sts_one {c : Expr} {t : En → LH → Res Bool} (h : ST X Wx c t) : STs X Wx [c] t := pts_one h
def compL (g : Va → En → LH → Res En) (t : En → LH → Res Bool) (f : EF) : List Va → En → LH → Res (List Va)
  | [], _, L => .ok [] L
  | w :: ws, env, L => match g w env L with
    | .ok env1 L1 => match t env1 L1 with
      | .ok b L2 => if b then match f env1 L2 with
          | .ok u L3 => (compL g t f ws env L3).bind fun us L4 => .ok (u :: us) L4
          | _ => .stuck
        else compL g t f ws env L2
      | _ => .stuck
    | _ => .stuck
def wipeE (env : En) : List Nat → En
  | [] => env
  | v :: vs => (wipeE env vs).set v none
def fComp (s : Srcf) (g : Va → En → LH → Res En) (t : En → LH → Res Bool) (f : EF) (vs : List Nat) : En → LH → Res Ob := fun env L => (s env L).bind fun p L1 =>
  if p.1.length ≤ sizeLine then match compL g t f p.1 (wipeE env vs) (lockL p.2 L1) with
    | .ok us L2 => .ok (.lst us) (openL p.2 L1 L2)
    | _ => .stuck
  else .stuck
theorem wipeE_length (env : En) : ∀ vs, (wipeE env vs).length = env.length
  | [] => rfl
  | v :: vs => by unfold wipeE; rw [List.length_set, wipeE_length env vs]
theorem wipeE_some {env : En} {i : Nat} {x : Va} : ∀ {vs : List Nat}, (wipeE env vs)[i]? = some (some x) → env[i]? = some (some x) ∧ i ∉ vs
  | [], h => ⟨h, by simp⟩
  | v :: vs, h => by
    unfold wipeE at h
    by_cases hi : v = i
    · subst hi
      by_cases hv : v < (wipeE env vs).length
      · rw [List.getElem?_set_self hv] at h; cases h
      · rw [List.getElem?_eq_none (by simpa using hv)] at h; cases h
    · rw [List.getElem?_set_ne hi] at h
      obtain ⟨h1, h2⟩ := wipeE_some h
      exact ⟨h1, by simp only [List.mem_cons, not_or]; exact ⟨fun e => hi e.symm, h2⟩⟩
theorem wipe_out' {σ : St} {i : Nat} : ∀ {vs : List Nat}, i ∉ vs → (wipe σ vs)[i]? = σ[i]?
  | [], _ => rfl
  | v :: vs, h => by
    unfold wipe
    rw [List.getElem?_set_ne (by intro z; exact h (by simp [z]))]
    exact wipe_out' fun z => h (List.mem_cons_of_mem _ z)
theorem wipe_in {σ : St} {i : Nat} : ∀ {vs : List Nat}, i ∈ vs → i < σ.length → (wipe σ vs)[i]? = some none
  | [], h, _ => by cases h
  | v :: vs, h, hl => by
    unfold wipe
    by_cases e : v = i
    · subst e
      rw [List.getElem?_set_self (by rw [wipe_length]; exact hl)]
    · rw [List.getElem?_set_ne e]
      rcases List.mem_cons.mp h with z | z
      · exact absurd z.symm e
      · exact wipe_in z hl
theorem wipe_agr {σ σ2 : St} {vs sl : List Nat} (h : Agr sl (wipe σ vs) σ2) (hs : ∀ j ∈ sl, j ∈ vs) : wipe σ2 vs = wipe σ vs := by
  have hlen : σ2.length = σ.length := by rw [h.1, wipe_length]
  apply List.ext_getElem?
  intro j
  by_cases e : j ∈ vs
  · by_cases hj : j < σ.length
    · rw [wipe_in e (by omega), wipe_in e hj]
    · rw [List.getElem?_eq_none (by rw [wipe_length]; omega), List.getElem?_eq_none (by rw [wipe_length]; omega)]
  · rw [wipe_out' e, h.2 j fun z => e (hs j z)]
theorem Conf.wiped {K : PySem.W.Frag} {mg : Str → Option Value} {σ : St} {H : Hp} {env : En} {L : LH} {al T : List Addr} (c : Conf K mg σ H env L al T) (vs : List Nat) : Conf K mg (wipe σ vs) H (wipeE env vs) L al T :=
  ⟨c.rel, by rw [wipe_length, wipeE_length, c.len], fun i w e => by
    obtain ⟨e1, n⟩ := wipeE_some e
    obtain ⟨v, h1, h2⟩ := c.slot i w e1
    exact ⟨v, by rw [wipe_out' n]; exact h1, h2⟩⟩
theorem lc_at {wi : TI} {s : Srcf} {sl vs : List Nat} {g : Va → En → LH → Res En} {t : En → LH → Res Bool} {f : EF} {σ : St} {H : Hp} {Q : VK} {gR : TG} {tR : TT} {eR : TE} {env : En} {L : LH} {al T : List Addr} (hv : ∀ j ∈ sl, j ∈ vs) (c : Conf X.K X.mg σ H env L al T)
    (hw : ∀ R, IPost X Wx σ H al T L (s env L) R → wi σ H R)
    (hgR : ∀ v σ H Q, (∃ w env L al T, Conf X.K X.mg σ H env L al T ∧ RV X (mask H (al ++ T)) al v w ∧ TPost X sl σ H al T L (g w env L) Q) → gR v σ H Q)
    (htR : ∀ σ H Q, Rdg X FX RB t σ H Q → tR σ H Q) (heR : ∀ σ H Q, Rdg X FX (RV X) f σ H Q → eR σ H Q)
    (h : FPost X Wx σ H al T L (fComp s g t f vs env L) Q) : tLc wi gR tR eR vs σ H Q := by
  refine hw _ ?_
  unfold fComp at h
  revert h
  generalize s env L = r
  intro h
  cases r with
  | stuck => exact h
  | exc c' f L1 => exact h
  | ok p L1 =>
    obtain ⟨ws, lk⟩ := p
    intro J H1 al1 s1 wk D hD
    have c1 := c.stp s1
    simp only [Res.bind_ok] at h
    split at h
    · rename_i hz
      have hl : al1.length = (lockL lk L1).length := (c1.rel.lock lk).len
      have c1l := c1.lock lk
      -- the new list, held
      have s0 : Stp X.K X.mg H1 al1 T (lockL lk L1) (upd H1 D (.lst [])) al1 (D :: T) (lockL lk L1) := c1l.rel.allocT hD
      let W : Nat → Nat → Hp → Prop := fun i m H2 => m = ws.length - i ∧ i ≤ ws.length ∧ ∃ al2 L2 av aw, Stp X.K X.mg H1 al1 T (lockL lk L1) H2 al2 (D :: T) L2 ∧ H2 D = some (.lst av) ∧ Rps X.K X.mg (mask H2 (al2 ++ (D :: T))) al2 av aw ∧ aw.length ≤ i ∧
        FPost X Wx σ H1 al1 T L1 (match compL g t f (ws.drop i) (wipeE env vs) L2 with
          | .ok us L3 => .ok (.lst (aw ++ us)) (openL lk L1 L3)
          | _ => .stuck) Q
      have back : ∀ x, H1 x = none → H x = none := fun x z => s1.back z
      have h1 : FPost X Wx σ H1 al1 T L1 (match compL g t f ws (wipeE env vs) (lockL lk L1) with
          | .ok us L3 => .ok (.lst us) (openL lk L1 L3)
          | _ => .stuck) Q := by
        revert h
        generalize compL g t f ws (wipeE env vs) (lockL lk L1) = r2
        intro h
        cases r2 with
        | ok us L3 => exact fun a H' al' ha t q => h a H' al' (back a ha) (Stp.trans c.rel.len s1 t) q
        | exc _ _ _ => exact h.elim
        | stuck => exact h.elim
      refine ⟨W, ⟨ws.length, by simp, Nat.zero_le _, al1, lockL lk L1, [], [], s0, upd_same, .nil, Nat.le_refl _, ?_⟩, ?_⟩
      · simpa using h1
      rintro i m H2 ⟨rfl, hi, al2, L2, av, aw, s2, hav, raw, hlen, h2⟩
      obtain ⟨stop, item⟩ := wk H2 al2 (D :: T) L2 s2
      by_cases hlt : i < ws.length
      · have ew : ws[i]? = some ws[i] := List.getElem?_eq_getElem hlt
        obtain ⟨go, yl⟩ := item i _ ew
        refine .inr ⟨go, W (i + 1) (ws.length - (i + 1)), fun H' n => ⟨ws.length - (i + 1), by omega, n⟩, fun x H3 y => ?_⟩
        obtain ⟨s3, rx⟩ := yl x H3 y
        have s13 := Stp.trans hl s2 s3
        have c3 : Conf X.K X.mg (wipe σ vs) H3 (wipeE env vs) L2 al2 (D :: T) := (c1l.wiped vs).stp s13
        refine hgR _ _ _ _ ⟨ws[i], wipeE env vs, L2, al2, D :: T, c3, rx, ?_⟩
        rw [List.drop_eq_getElem_cons hlt] at h2
        unfold compL at h2
        revert h2
        generalize g ws[i] (wipeE env vs) L2 = r1
        intro h2
        cases r1 with
        | stuck => exact h2
        | exc _ _ _ => exact h2
        | ok env4 L4 =>
          intro σ4 H4 al4 s4 c4 ag
          have s14 := Stp.trans hl s13 s4
          refine ⟨wipe_agr ag hv, htR _ _ _ ⟨env4, L4, al4, D :: T, c4, ?_⟩⟩
          simp only at h2
          revert h2
          generalize t env4 L4 = r2
          intro h2
          cases r2 with
          | stuck => exact h2
          | exc _ _ _ => exact h2.elim
          | ok b L5 =>
            intro b' H5 al5 s5 e5
            obtain rfl : b' = b := e5
            have s15 := Stp.trans hl s14 s5
            have h5 : H5 D = some (.lst av) := s5.frame D _ (s4.frame D _ (s3.frame D _ hav (fun z => s2.rel.dis D z.mem List.mem_cons_self)) (fun z => s3.rel.dis D z.mem List.mem_cons_self)) (fun z => s4.rel.dis D z.mem List.mem_cons_self)
            have raw5 := s5.rps (s4.rps (s3.rps raw))
            simp only at h2
            cases b' with
            | false =>
              rw [if_neg Bool.false_ne_true] at h2 ⊢
              exact ⟨rfl, hlt, al5, L5, av, aw, s15, h5, raw5, by omega, h2⟩
            | true =>
              rw [if_pos rfl] at h2 ⊢
              have c5 := c4.stp s5
              refine heR _ _ _ ⟨env4, L5, al5, D :: T, c5, ?_⟩
              revert h2
              generalize f env4 L5 = r3
              intro h2
              cases r3 with
              | stuck => exact h2
              | exc _ _ _ => exact h2.elim
              | ok u L6 =>
                intro yv H6 al6 s6 ry
                have s16 := Stp.trans hl s15 s6
                have h6 : H6 D = some (.lst av) := s6.frame D _ h5 (fun z => s5.rel.dis D z.mem List.mem_cons_self)
                have raw6 := s6.rps raw5
                have l6 := Paired.length raw6
                refine ⟨av, h6, by omega, rfl, hlt, al6, L6, av ++ [yv], aw ++ [u], Stp.updT hD s16, upd_same, ?_, by simp; omega, ?_⟩
                · rw [mask_in (by simp)]
                  exact rps_app raw6 (.cons ry .nil)
                · simp only at h2
                  revert h2
                  generalize compL g t f (ws.drop (i + 1)) (wipeE env vs) L6 = r4
                  intro h2
                  cases r4 with
                  | stuck => exact h2
                  | exc _ _ _ => exact h2
                  | ok us L7 => simpa using h2
      · have e : i = ws.length := by omega
        subst e
        rw [List.drop_length] at h2
        unfold compL at h2
        simp only [List.append_nil] at h2
        exact .inl ⟨stop, h2 D H2 al2 hD (Stp.opened c1.rel s2) ⟨av, hav, raw⟩⟩
    · exact h.elim
theorem lc_red {wi : TI} {s : Srcf} {sl vs : List Nat} {g : Va → En → LH → Res En} {t : En → LH → Res Bool} {f : EF} {σ : St} {H : Hp} {Q : VK} {gR : TG} {tR : TT} {eR : TE} (hv : ∀ j ∈ sl, j ∈ vs)
    (hw : ∀ σ H R, (∃ env L al T, Conf X.K X.mg σ H env L al T ∧ IPost X Wx σ H al T L (s env L) R) → wi σ H R)
    (hgR : ∀ v σ H Q, (∃ w env L al T, Conf X.K X.mg σ H env L al T ∧ RV X (mask H (al ++ T)) al v w ∧ TPost X sl σ H al T L (g w env L) Q) → gR v σ H Q)
    (htR : ∀ σ H Q, Rdg X FX RB t σ H Q → tR σ H Q) (heR : ∀ σ H Q, Rdg X FX (RV X) f σ H Q → eR σ H Q)
    (h : FRdg X Wx (fComp s g t f vs) σ H Q) : tLc wi gR tR eR vs σ H Q := by
  obtain ⟨env, L, al, T, c, h⟩ := h
  exact lc_at hv c (fun R q => hw _ _ _ ⟨env, L, al, T, c, q⟩) hgR htR heR h
abbrev gRd (X : Cx) (sl : List Nat) (g : Va → En → LH → Res En) : TG := fun v σ H Q => ∃ w env L al T, Conf X.K X.mg σ H env L al T ∧ RV X (mask H (al ++ T)) al v w ∧ TPost X sl σ H al T L (g w env L) Q
abbrev BlkP (X : Cx) (scope : Scope) (P : Cx → Prop) : Prop := ∀ (s : Shared) (H : Hp) (C : Addr) (cl : List (Str × Addr)) (fp : List Addr), P (X.blk s H scope (compEnvC scope cl C X.env) fp)
theorem sf_comp {elt tg iter : Expr} {ifs : List Expr} {scope : Scope} {own : List (Str × Nat)} {pos : Pos} {s : Srcf} {sl : List Nat} {g : Va → En → LH → Res En} {t : En → LH → Res Bool} {f : EF} (hc : X.calm = true) (hN : X.N.Nodup) (hi : SI X Wx tg iter s) (ok : BlkOk X.N X.env.scope scope own)
    (hv : ∀ j ∈ sl, j ∈ own.map (·.2)) (hg : BlkP X scope fun X => SG X sl tg g) (ht : BlkP X scope fun X => STs X FX ifs t) (he : BlkP X scope fun X => SE X FX elt f) (hs : ∀ x, foldedSetIterable iter X.env x = pure x := by intro _; rfl) :
    SF X Wx (.ListComp elt [⟨tg, iter, ifs, 0⟩] scope pos) (fComp s g t f (own.map (·.2))) :=
  PE.imp (pe_lc (g := gRd X sl g) (tt := Rdg X FX RB t) (te := Rdg X FX (RV X) f) hc hN hi ok (fun s H C cl fp => hg s H C cl fp) (fun s H C cl fp => ht s H C cl fp) (fun s H C cl fp => he s H C cl fp) hs) fun σ H Q h => lc_red hv (fun _ _ _ h => h) (fun _ _ _ _ h => h) (fun _ _ _ h => h) (fun _ _ _ h => h) h
theorem ss_setComp {i : Nat} {y : Str} {py : Pos} {elt tg iter : Expr} {ifs : List Expr} {scope : Scope} {own : List (Str × Nat)} {pos spos : Pos} {s : Srcf} {sl : List Nat} {g : Va → En → LH → Res En} {t : En → LH → Res Bool} {f : EF} (hc : X.calm = true) (hN : X.N.Nodup) (hy : X.N[i]? = some y) (hyl : X.env.scope.names.lookup y = some .local)
    (hsw : swapsWith (.ListComp elt [⟨tg, iter, ifs, 0⟩] scope pos) (some (.Name y py)) spos.line X.env = pure true) (hi : SI X Wx tg iter s) (ok : BlkOk X.N X.env.scope scope own)
    (hv : ∀ j ∈ sl, j ∈ own.map (·.2)) (hg : BlkP X scope fun X => SG X sl tg g) (ht : BlkP X scope fun X => STs X FX ifs t) (he : BlkP X scope fun X => SE X FX elt f) (hs : ∀ x, foldedSetIterable iter X.env x = pure x := by intro _; rfl) :
    SS X Wx (.Assign [.Name y py] (.ListComp elt [⟨tg, iter, ifs, 0⟩] scope pos) spos) (sSet i (eDat (fComp s g t f (own.map (·.2))))) := by
  refine PS.imp (ps_setLc (g := gRd X sl g) (tt := Rdg X FX RB t) (te := Rdg X FX (RV X) f) hc hN hy hyl hsw hi ok (fun s H C cl fp => hg s H C cl fp) (fun s H C cl fp => ht s H C cl fp) (fun s H C cl fp => he s H C cl fp) hs) ?_
  rintro D σ H ⟨env, L, al, T, c, h⟩
  refine lc_red hv (fun _ _ _ h => h) (fun _ _ _ _ h => h) (fun _ _ _ h => h) (fun _ _ _ h => h) ⟨env, L, al, T, c, ?_⟩
  unfold sSet eDat at h
  revert h
  generalize fComp s g t f (own.map (·.2)) env L = r
  intro h
  cases r with
  | stuck => exact h
  | exc c' f' L1 => exact fun cls d H' al' s e => h cls d σ H' al' s (c.stp s) e
  | ok o L1 =>
    intro a H' al' ha st ob
    simp only [Res.bind_ok] at h
    cases e : o.va with
    | none => rw [e] at h; exact h.elim
    | some w =>
      rw [e] at h
      have r := st.rel
      have na : a ∉ al' ++ T := fun z => by
        rcases List.mem_append.mp z with z | z
        · exact r.dis a z List.mem_cons_self
        · exact (c.rel.fresh ha).2 z
      have m : Le (mask H' (al' ++ (a :: T))) (mask H' (al' ++ T)) := fun b u e => by
        obtain ⟨n, e⟩ := of_mask e
        exact mask_of (fun z => n (by simp only [List.mem_append, List.mem_cons] at z ⊢; exact z.imp id .inr)) e
      have st' := Stp.drop (te := [a]) (fun b hb => by have : b = a := by simpa using hb
                                                       rw [this]; exact ha) st
      exact h _ H' al' st' ((c.stp st').put (va_ok na m ob e))
end
end L2.HW
namespace L2.HW
open PySem PySem.Spec PyProof.Rows
abbrev Fn := List Va → LH → Res Va
mutual
/-- no cell from n0 on -/
def Va.low (n0 : Nat) : Va → Bool
  | .loc n => decide (n < n0)
  | .tup ws => lows n0 ws
  | .d _ => true
  | .dct _ => true
  | .exc _ _ => true
  | .scr _ => true
def lows (n0 : Nat) : List Va → Bool
  | [] => true
  | w :: r => w.low n0 && lows n0 r
end
def Ob.low (n0 : Nat) : Ob → Bool
  | .lst ws => lows n0 ws
  | .di kvs => kvs.all fun p => p.2.low n0
  | .dt kvs => kvs.all fun p => p.2.low n0
  | .ins _ fs => fs.all fun p => p.2.low n0
@[simp] theorem low_d (n0 : Nat) (x : PyData) : (Va.d x).low n0 = true := by simp [Va.low]
@[simp] theorem lows_d (n0 : Nat) : ∀ (xs : List PyData), lows n0 (xs.map Va.d) = true
  | [] => by simp [lows]
  | x :: xs => by simp [lows, lows_d n0 xs]
section
variable {K : PySem.W.Frag} {mg : Str → Option Value}
mutual
theorem rp_low {M : Hp} {al : List Addr} : ∀ {v : V} {w : Va}, Rp K mg M al v w → w.low al.length = true
  | _, _, .d q => by simp
  | _, _, .loc e => by simpa [Va.low] using (List.getElem?_eq_some_iff.mp e).1
  | _, _, .scr q => by simp [Va.low]
  | _, _, .tup q r => by simpa [Va.low] using rps_low r
  | _, _, .dct e q => by simp [Va.low]
  | _, _, .exc e q => by simp [Va.low]
theorem rps_low {M : Hp} {al : List Addr} : ∀ {v : List V} {w : List Va}, Rps K mg M al v w → lows al.length w = true
  | _, _, .nil => by simp [lows]
  | _, _, .cons a b => by simp [lows, rp_low a, rps_low b]
end
mutual
theorem low_rp {M M' : Hp} {al be : List Addr} (h : Le M M') : ∀ {v : V} {w : Va}, Rp K mg M (al ++ be) v w → w.low al.length = true → Rp K mg M' al v w
  | _, _, .d q, _ => .d (Dq.le h q)
  | _, _, .loc (n := n) e, l => by
    have l : n < al.length := by simpa [Va.low] using l
    exact .loc (by rw [List.getElem?_append_left l] at e; exact e)
  | _, _, .scr q, _ => .scr (SqL.le h q)
  | _, _, .tup q r, l => .tup (h _ _ q) (low_rps h r (by simpa [Va.low] using l))
  | _, _, .dct e q, _ => .dct (h _ _ e) (KDp.le h q)
  | _, _, .exc e q, _ => .exc (h _ _ e) (ExR.le h q)
theorem low_rps {M M' : Hp} {al be : List Addr} (h : Le M M') : ∀ {v : List V} {w : List Va}, Rps K mg M (al ++ be) v w → lows al.length w = true → Rps K mg M' al v w
  | _, _, .nil, _ => .nil
  | _, _, .cons (b := w) (l₂ := ws) a b, l => by
    have l : w.low al.length = true ∧ lows al.length ws = true := by simpa [lows] using l
    exact .cons (low_rp h a l.1) (low_rps h b l.2)
end
theorem pall {α β : Type} {F : α → β → Prop} {p : β → Bool} (h : ∀ a b, F a b → p b = true) : ∀ {xs : List α} {ys : List β}, Paired F xs ys → ys.all p = true
  | _, _, .nil => rfl
  | _, _, .cons a b => by simp only [List.all_cons, Bool.and_eq_true]; exact ⟨h _ _ a, pall h b⟩
theorem pmapall {α β : Type} {F G : α → β → Prop} {p : β → Bool} (h : ∀ a b, F a b → p b = true → G a b) : ∀ {xs : List α} {ys : List β}, Paired F xs ys → ys.all p = true → Paired G xs ys
  | _, _, .nil, _ => .nil
  | _, _, .cons a b, l => by
    simp only [List.all_cons, Bool.and_eq_true] at l
    exact .cons (h _ _ a l.1) (pmapall h b l.2)
theorem ob_low {M H : Hp} {al : List Addr} {a : Addr} : ∀ {o : Ob}, ObR K mg M al H a o → o.low al.length = true
  | .lst ws, ⟨vs, e, r⟩ => rps_low r
  | .di kvs, ⟨ks, e, r⟩ => pall (fun _ _ q => rp_low q.2) r
  | .dt kvs, ⟨ks, e, r⟩ => pall (fun _ _ q => rp_low q.2) r
  | .ins c fs, ⟨C, dx, ks, e1, e2, r⟩ => pall (fun _ _ q => rp_low q.2) r
theorem low_ob {M M' H : Hp} {al be : List Addr} (h : Le M M') {a : Addr} : ∀ {o : Ob}, ObR K mg M (al ++ be) H a o → o.low al.length = true → ObR K mg M' al H a o
  | .lst ws, ⟨vs, e, r⟩, l => ⟨vs, e, low_rps h r l⟩
  | .di kvs, ⟨ks, e, r⟩, l => ⟨ks, e, pmapall (fun _ _ q n => ⟨q.1, low_rp h q.2 n⟩) r l⟩
  | .dt kvs, ⟨ks, e, r⟩, l => ⟨ks, e, pmapall (fun _ _ q n => ⟨q.1, low_rp h q.2 n⟩) r l⟩
  | .ins c fs, ⟨C, dx, ks, e1, e2, r⟩, l => ⟨C, dx, ks, e1, e2, pmapall (fun _ _ q n => ⟨q.1, low_rp h q.2 n⟩) r l⟩
end
def Kept (L L' : LH) : Prop := ∀ n, n < L.length → L'[n]? = L[n]? ∨ ∃ o, L'[n]? = some (some o) ∧ o.low L.length = true
theorem kept_app (L g : LH) : Kept L (L ++ g) := fun n h => .inl (List.getElem?_append_left h)
@[simp] theorem kept_app' (L g : LH) : Kept L (L ++ g) ↔ True := iff_true_intro (kept_app L g)
@[simp] theorem kept_self (L : LH) : Kept L L ↔ True := iff_true_intro fun n h => .inl rfl
def mapO {α β : Type} (f : α → Option β) : List α → Option (List β)
  | [] => some []
  | a :: r => match f a with
    | some b => match mapO f r with
      | some bs => some (b :: bs)
      | none => none
    | none => none
def settle (L : LH) (n0 : Nat) : Nat → Va → Option Va
  | 0, w => match w with
    | .d x => some (.d x)
    | _ => none
  | k + 1, w => match w with
    | .d x => some (.d x)
    | .loc n => if n < n0 then some (.loc n) else match L[n]? with
      | some (some (.lst ws)) => match mapO (settle L n0 k) ws with
        | some us => (datas us).map fun xs => .d (.list xs)
        | none => none
      | some (some (.di kvs)) => match mapO (fun p : Int × Va => match settle L n0 k p.2 with
            | some (.d x) => some (p.1, x)
            | _ => none) kvs with
        | some ks => some (.dct ks)
        | none => none
      | _ => none
    | .tup ws => match mapO (settle L n0 k) ws with
      | some us => some (mkTup us)
      | none => none
    | w => some w
def settleO (L : LH) (n0 : Nat) (k : Nat) : Ob → Option Va
  | .lst ws => match mapO (settle L n0 k) ws with
    | some us => (datas us).map fun xs => .d (.list xs)
    | none => none
  | .di kvs => match mapO (fun p : Int × Va => match settle L n0 k p.2 with
        | some (.d x) => some (p.1, x)
        | _ => none) kvs with
    | some ks => some (.dct ks)
    | none => none
  | _ => none
theorem settle_loc (L : LH) (n0 k n : Nat) : settle L n0 (k + 1) (.loc n) = if n < n0 then some (.loc n) else match L[n]? with
    | some (some o) => settleO L n0 k o
    | _ => none := by
  conv => lhs; unfold settle
  by_cases h : n < n0
  · simp [h]
  · simp only [h, if_false]
    cases e : L[n]? with
    | none => rfl
    | some o =>
      cases o with
      | none => rfl
      | some o => cases o <;> rfl
@[simp] theorem settle_d (L : LH) (n0 k : Nat) (x : PyData) : settle L n0 k (.d x) = some (.d x) := by cases k <;> rfl
theorem mapO_settle_d (L : LH) (n0 k : Nat) : ∀ xs : List PyData, mapO (settle L n0 k) (xs.map Va.d) = some (xs.map Va.d)
  | [] => rfl
  | x :: xs => by simp [mapO, mapO_settle_d L n0 k xs]
@[simp] theorem settleO_d (L : LH) (n0 k : Nat) (xs : List PyData) : settleO L n0 k (.lst (xs.map Va.d)) = some (.d (.list xs)) := by simp [settleO, mapO_settle_d]
section
variable {K : PySem.W.Frag} {mg : Str → Option Value} {H H' : Hp} {al al' T be : List Addr} {L L' : LH}
theorem mapO_rps {M M' : Hp} {f : Va → Option Va} {al al' : List Addr} (hf : ∀ v w u, Rp K mg M al v w → f w = some u → Rp K mg M' al' v u) : ∀ {vs : List V} {ws us : List Va}, Rps K mg M al vs ws → mapO f ws = some us → Rps K mg M' al' vs us
  | _, _, us, .nil, e => by cases e; exact .nil
  | _, _, us, .cons (b := w) (l₂ := ws) a b, e => by
    unfold mapO at e
    split at e
    · rename_i u e1
      split at e
      · rename_i us' e2
        cases e
        exact .cons (hf _ _ _ a e1) (mapO_rps hf b e2)
      · cases e
    · cases e
theorem mask_more (H : Hp) (al be T : List Addr) : Le (mask H ((al ++ be) ++ T)) (mask H (al ++ T)) := fun b o e => by
  obtain ⟨n, e⟩ := of_mask e
  refine mask_of (fun z => n ?_) e
  simp only [List.mem_append] at z ⊢
  rcases z with z | z
  · exact .inl (.inl z)
  · exact .inr z
theorem settle_ok {L0 : LH} (r0 : al.length = L0.length) (r : Rel K mg H' (al ++ be) T L') : ∀ (k : Nat), (∀ (v : V) (w u : Va), Rp K mg (mask H' ((al ++ be) ++ T)) (al ++ be) v w → settle L' L0.length k w = some u → Rp K mg (mask H' (al ++ T)) al v u) ∧
    (∀ (a : Addr) (o : Ob) (u : Va), a ∉ al → a ∉ T → ObR K mg (mask H' ((al ++ be) ++ T)) (al ++ be) H' a o → settleO L' L0.length k o = some u → Rp K mg (mask H' (al ++ T)) al (.ref a) u) := by
  have m := mask_more H' al be T
  have hO : ∀ k, (∀ (v : V) (w u : Va), Rp K mg (mask H' ((al ++ be) ++ T)) (al ++ be) v w → settle L' L0.length k w = some u → Rp K mg (mask H' (al ++ T)) al v u) →
      (∀ (a : Addr) (o : Ob) (u : Va), a ∉ al → a ∉ T → ObR K mg (mask H' ((al ++ be) ++ T)) (al ++ be) H' a o → settleO L' L0.length k o = some u → Rp K mg (mask H' (al ++ T)) al (.ref a) u) := by
    intro k ih a o u na nT q e
    have hn : a ∉ al ++ T := by simp [na, nT]
    cases o with
    | lst ws =>
      obtain ⟨vs, h1, h2⟩ := q
      simp only [settleO] at e
      split at e
      · rename_i us e1
        cases e5 : datas us with
        | none => rw [e5] at e; cases e
        | some xs =>
          rw [e5] at e
          cases e
          have h3 := mapO_rps ih h2 e1
          rw [datas_eq e5] at h3
          exact .d (.lst (mask_of hn h1) (dq_all h3))
      · cases e
    | di kvs =>
      obtain ⟨ks, h1, h2⟩ := q
      simp only [settleO] at e
      split at e
      · rename_i us e1
        cases e
        refine .dct (mask_of hn h1) ?_
        have go : ∀ {ks : List (Key × V)} {kvs : List (Int × Va)} {us : List (Int × PyData)}, KRp K mg (mask H' ((al ++ be) ++ T)) (al ++ be) ks kvs → mapO (fun p : Int × Va => match settle L' L0.length k p.2 with
            | some (.d x) => some (p.1, x)
            | _ => none) kvs = some us → KDp (mask H' (al ++ T)) ks us := by
          intro ks kvs us h
          induction h generalizing us with
          | nil => intro e; cases e; exact .nil
          | @cons p q ps qs h1 _ ih2 =>
            intro e
            unfold mapO at e
            split at e
            · rename_i b e2
              split at e
              · rename_i bs e3
                cases e
                split at e2
                · rename_i x e4
                  cases e2
                  have h5 := ih _ _ _ h1.2 e4
                  exact .cons ⟨h1.1, rp_d h5⟩ (ih2 e3)
                · cases e2
              · cases e
            · cases e
        exact go h2 e1
      · cases e
    | dt _ => cases e
    | ins _ _ => cases e
  intro k
  induction k with
  | zero =>
    have h0 : ∀ (v : V) (w u : Va), Rp K mg (mask H' ((al ++ be) ++ T)) (al ++ be) v w → settle L' L0.length 0 w = some u → Rp K mg (mask H' (al ++ T)) al v u := by
      intro v w u q e
      cases q with
      | d q => cases e; exact .d (Dq.le m q)
      | loc _ => cases e
      | tup _ _ => cases e
      | dct _ _ => cases e
      | exc _ _ => cases e
      | scr _ => cases e
    exact ⟨h0, hO 0 h0⟩
  | succ k ih =>
    have h0 : ∀ (v : V) (w u : Va), Rp K mg (mask H' ((al ++ be) ++ T)) (al ++ be) v w → settle L' L0.length (k + 1) w = some u → Rp K mg (mask H' (al ++ T)) al v u := by
      intro v w u q e
      cases q with
      | d q => cases e; exact .d (Dq.le m q)
      | @loc n a e1 =>
        rw [settle_loc] at e
        split at e
        · rename_i hlt
          cases e
          exact .loc (by rw [List.getElem?_append_left (by omega)] at e1; exact e1)
        · rename_i hlt
          split at e
          · rename_i o e2
            obtain ⟨b, e3, q3⟩ := r.cell n o e2
            rw [e1] at e3; cases e3
            have ha : a ∈ be := by
              rw [List.getElem?_append_right (by omega)] at e1
              exact List.mem_of_getElem? e1
            have na : a ∉ al := fun z => (List.nodup_append.mp r.nd).2.2 a z a ha rfl
            exact ih.2 a o u na (r.dis a (List.mem_append_right _ ha)) q3 e
          · cases e
      | tup e1 e2 =>
        simp only [settle] at e
        split at e
        · rename_i us e3
          cases e
          exact rp_mkTup (m _ _ e1) (mapO_rps ih.1 e2 e3)
        · cases e
      | dct e1 e2 => cases e; exact .dct (m _ _ e1) (KDp.le m e2)
      | exc e1 e2 => cases e; exact .exc (m _ _ e1) (ExR.le m e2)
      | scr e1 => cases e; exact .scr (SqL.le m e1)
    exact ⟨h0, hO (k + 1) h0⟩
theorem exitS (r0 : Rel K mg H al T L) (s : Stp K mg H al T L H' al' T L') (hk : Kept L L') : Stp K mg H al T L H' al T (L'.take L.length) := by
  obtain ⟨be, e, f⟩ := s.ext
  subst e
  have r := s.rel
  have hl : L.length ≤ L'.length := by have := r.len; have := r0.len; simp at *; omega
  have tk : ∀ n, n < L.length → (L'.take L.length)[n]? = L'[n]? := fun n hn => by rw [List.getElem?_take_of_lt hn]
  refine ⟨⟨by rw [List.length_take, r0.len]; omega, r0.nd, r0.dis, fun a h => r.trk a (h.imp (List.mem_append_left _) id), fun n o en => ?_⟩, ⟨[], by simp, fun _ z => nomatch z⟩, ⟨[], by simp, fun _ z => nomatch z⟩, s.frame, s.stay, fun n en => ?_, fun n o en => ?_⟩
  · have hn : n < L.length := by
      have := (List.getElem?_eq_some_iff.mp en).1
      rw [List.length_take] at this; omega
    rw [tk n hn] at en
    obtain ⟨a, e1, q⟩ := r.cell n o en
    have e1' : al[n]? = some a := by rw [List.getElem?_append_left (by rw [r0.len]; exact hn)] at e1; exact e1
    have lo : o.low al.length = true := by
      rcases hk n hn with z | ⟨o', z, l⟩
      · rw [en] at z
        obtain ⟨b, e2, q2⟩ := r0.cell n o z.symm
        exact ob_low q2
      · rw [en] at z
        cases z
        rw [r0.len]; exact l
    exact ⟨a, e1', low_ob (mask_more H' al be T) q lo⟩
  · rw [tk n (List.getElem?_eq_some_iff.mp en).1]; exact s.lck n en
  · rw [tk n (List.getElem?_eq_some_iff.mp en).1]; exact s.alv n o en
end
open Classical in
noncomputable def outV (L L' : LH) : Option Va → Res Va
  | some w => if Kept L L' then .ok w (L'.take L.length) else .stuck
  | none => .stuck
open Classical in
noncomputable def mkFn (np nl : Nat) (body : SFn) : Fn := fun ws L => if ws.length = np then match body (ws.map some ++ List.replicate (nl - ws.length) none) L with
    | .nx _ L' => outV L L' (some (.d .none))
    | .rt w L' => outV L L' (settle L' L.length 9 w)
    | .rf o L' => outV L L' (settleO L' L.length 9 o)
    | .exc c f _ L' => if Kept L L' then .exc c f (L'.take L.length) else .stuck
    | _ => .stuck
  else .stuck
def NP (np : Nat) (F : Fn) : Prop := ∀ ws L, ws.length ≠ np → F ws L = .stuck
theorem np_mk {np nl : Nat} {body : SFn} : NP np (mkFn np nl body) := fun ws L h => by unfold mkFn; rw [if_neg h]
def NPost (K : PySem.W.Frag) (mg : Str → Option Value) (H : Hp) (al T : List Addr) (L : LH) (r : Res Va) (Q : VK) (E : XK) : Prop := match r with
  | .ok w L' => ∀ v H' al', Stp K mg H al T L H' al' T L' → Rp K mg (mask H' (al' ++ T)) al' v w → Q v H'
  | .exc c f L' => ∀ cls d H' al', Stp K mg H al T L H' al' T L' → ExR mg (mask H' (al' ++ T)) c f cls d → E cls d H'
  | .stuck => False
def spOf (K : PySem.W.Frag) (mg : Str → Option Value) (np : Nat) (F : Fn) : Sp := fun vs H Q E => vs.length = np ∧ ∃ ws al T L, Rel K mg H al T L ∧ Rps K mg (mask H (al ++ T)) al vs ws ∧ NPost K mg H al T L (F ws L) Q E
theorem conf_start {K : PySem.W.Frag} {mg : Str → Option Value} {N : List Str} {H : Hp} {al T : List Addr} {L : LH} {vs : List V} {ws : List Va} (r : Rel K mg H al T L) (rs : Rps K mg (mask H (al ++ T)) al vs ws) (hl : vs.length ≤ N.length) :
    Conf K mg (L2.start N vs) H (ws.map some ++ List.replicate (N.length - ws.length) none) L al T := by
  have e := Paired.length rs
  refine ⟨r, ?_, fun i w h => ?_⟩
  · unfold L2.start
    simp only [List.length_append, List.length_map, List.length_replicate]
    omega
  · have hi : i < ws.length := by
      by_cases hi : i < ws.length
      · exact hi
      · rw [List.getElem?_append_right (by simpa using hi), List.getElem?_replicate] at h
        split at h <;> cases h
    rw [List.getElem?_append_left (by simpa using hi), List.getElem?_map] at h
    cases e2 : ws[i]? with
    | none => rw [e2] at h; cases h
    | some u =>
      rw [e2] at h
      cases h
      have go : ∀ {vs : List V} {ws : List Va} {i : Nat}, Rps K mg (mask H (al ++ T)) al vs ws → ws[i]? = some w → ∃ v, vs[i]? = some v ∧ Rp K mg (mask H (al ++ T)) al v w := by
        intro vs ws i h
        induction h generalizing i with
        | nil => intro e; simp at e
        | @cons v u vs us a b ih =>
          intro e
          cases i with
          | zero => simp at e; subst e; exact ⟨v, rfl, a⟩
          | succ i => exact ih (by simpa using e)
      obtain ⟨v, h1, h2⟩ := go rs e2
      refine ⟨v, ?_, h2⟩
      unfold L2.start
      rw [List.getElem?_append_left (by simpa using (List.getElem?_eq_some_iff.mp h1).1), List.getElem?_map, h1]
      rfl
structure FnG (P : Program) (w : World) (K : PySem.W.Frag) (mg : Str → Option Value) (base : Heap) (CX : CXT) (k : Nat) (f : Addr) (fd : FuncData) (ps : List Str) (sp : Sp) : Prop where
  ln : ∀ us H Q E, sp us H Q E → us.length = ps.length
  go : ∀ (A : Around) (out : List Env) (s : Shared) (H : Hp) (ar : Args) (us : List Value) (vs : List V) (Q : VK) (E : XK), A.guards = some [] → Room k A →
    Env0 P w K mg base A out s H → BindsTo s fd ar (ps.zip us) → Vals vs us → sp vs H Q E → codeAny (model P w) A (.call (.ref f) ar) (CR CX out P w H s Q E) s
theorem FnG.more {P : Program} {w : World} {K : PySem.W.Frag} {mg : Str → Option Value} {base : Heap} {CX : CXT} {i k : Nat} {f : Addr} {fd : FuncData} {ps : List Str} {sp : Sp}
    (F : FnG P w K mg base CX i f fd ps sp) (h : i ≤ k) : FnG P w K mg base CX k f fd ps sp :=
  ⟨F.ln, fun A out s H ar us vs Q E hg hr => F.go A out s H ar us vs Q E hg (hr.mono h)⟩
theorem fnG_of {CX : CXT} {P : Program} {w : World} {K : PySem.W.Frag} {mg : Str → Option Value} {base : Heap} {k : Nat} {f : Addr} {nm qual : Str} {pars : Arguments} {body : List Stmt} {sc : Scope}
    {dvs : List V} {kws : List (Str × V)} {fd : FuncData} {N ps : List Str} {sp : Sp} (F : FunD K nm qual pars body sc dvs kws f fd) (S : FnScope N ps sc)
    (ln : ∀ us H Q E, sp us H Q E → us.length = ps.length)
    (hb : ∀ (cd : Value) (A : Around) (out : List Env) (s : Shared) (H : Hp) (vs : List V) (Q : VK) (E : XK), A.guards = some [] → Room k (A.deeper (envOfC qual sc s.heap.objs.size f cd)) → sp vs H Q E →
      ∃ t, PSs (cxOf CX P w K mg base N qual sc f cd A out s H E) body t ∧ t { nx := fun _ H1 => Q .non H1, rt := Q } (L2.start N vs) H) :
    FnG P w K mg base CX (k + 1) f fd ps sp := by
  obtain ⟨oc, od, dV, kV, doc, pm, an, cd, ct, osl, rfl, lk, hcode, _, _⟩ := F.ex
  refine ⟨ln, ?_⟩
  intro A out s H ar us vs Q E hg hr en bt rv hsp
  have kin : K.In s.heap := en.mod.kin.keeps fun b o z => (en.bs b o z).1
  have nl : s.heap.NoLimit := en.mod.nolimit.keeps fun b o z => (en.bs b o z).1
  have hk : ∀ z ∈ ps.zip us, sc.names.lookup z.1 = some .local ∨ (sc.names.lookup z.1 = some .cell ∧ ((cellsFrom (s.heap.objs.size + 1) sc.names []).lookup z.1).isSome = true) := by
    rintro ⟨n, v⟩ hz
    exact (S.par n (List.of_mem_zip hz).1).imp id fun q => ⟨q, PySem.W.cellsFrom_some _ _ _ (.inl q)⟩
  refine codeAny_call_function hr.depth (kin _ _ lk) rfl S.co S.gen rfl (PySem.W.codeRec_of kin hcode) (bt _ _ _ _ ?_)
  refine wpAny_newFunctionEnv_cells S.kind hk fun env ee s1 fresh => ?_
  subst ee
  refine ⟨nl.keeps fresh.toInCall.keep, codeAny_func ?_⟩
  obtain ⟨t, run, start⟩ := hb cd A out s H vs Q E hg (hr.deeper _) hsp
  have inv := inv_start (E := E) (CX := CX) S hr.hd en (ln _ _ _ _ hsp) rv fresh
  refine wpAny_mono (run.run [] s1 (L2.start N vs) H _ inv start) (fun fl s2 z => ?_) fun _ _ z => z
  match fl, z with
  | .ret u, ⟨v, σ2, H2, J, r2, q⟩ => exact ⟨v, H2, J.os, J.bare, J.base, J.hok, r2, q⟩
  | .next, ⟨σ2, H2, J, q⟩ => exact ⟨.non, H2, J.os, J.bare, J.base, J.hok, rfl, q⟩
  | .brk, ⟨_, _, _, q⟩ => exact q.elim
  | .cont, ⟨_, _, _, q⟩ => exact q.elim
theorem run_fnG {X : Cx} {CX : CXT} {k : Nat} {f : Addr} {fd : FuncData} {ps : List Str} {sp : Sp} {E : St → XK} {pins : List (Addr × Obj)} {σ : St} {H : Hp} {s : Shared} {Q : VK} {us : List Value} {vs : List V}
    (F : FnG X.prog X.w X.K X.mg X.base CX k f fd ps sp) (hg : X.A.guards = some []) (hr : Room k X.A) (hb : Binds X.K fd ps []) (hx : PassesAt CX X σ (E σ)) (I : Inv X pins σ H s) (rv : Vals vs us) (h : sp vs H Q (E σ)) :
    wpAny (model X.prog X.w) X.A (call (.ref f) us) (EP X pins σ Q) X.xe s := by
  have bt : BindsTo s fd ⟨us, []⟩ (ps.zip us) := by
    have z := hb s us I.kIn (by rw [List.append_nil, ← rv.length]; exact F.ln _ _ _ _ h)
    rwa [List.append_nil] at z
  refine wpAny_call (codeAny_mono (F.go X.A X.stack s H ⟨us, []⟩ us vs Q (E σ) hg hr I.env0 bt rv h) ?_)
  intro r s2 z
  match r, z with
  | .error e, z => exact hx pins H s e s2 I z
  | .ok (.ret u), z => exact I.after z
  | .ok .next, z => exact z.elim
  | .ok .brk, z => exact z.elim
  | .ok .cont, z => exact z.elim
section
variable {P : Program} {w : World} {K : PySem.W.Frag} {mg : Str → Option Value} {base : Heap} {x qual : Str} {params : Arguments} {body : List Stmt} {scope : Scope} {dvs : List V} {kws : List (Str × V)} {f : Addr} {fd : FuncData}
abbrev WxE (E : XK) : WX := fun cls d _ H => E cls d H
theorem body_end {K : PySem.W.Frag} {mg : Str → Option Value} {H : Hp} {al T : List Addr} {L : LH} {X : Cx} (hK : X.K = K) (hmg : X.mg = mg) {Q : VK} {E : XK} {np nl : Nat} {bf : SFn} {ws : List Va} (r0 : Rel K mg H al T L) (hl : ws.length = np)
    (h : NPost K mg H al T L (mkFn np nl bf ws L) Q E) : SPost X (WxE E) H al T L (bf (ws.map some ++ List.replicate (nl - ws.length) none) L) { nx := fun _ H' => Q .non H', rt := Q } := by
  subst hK hmg
  unfold mkFn at h
  rw [if_pos hl] at h
  revert h
  generalize bf (ws.map some ++ List.replicate (nl - ws.length) none) L = r
  intro h
  have one : ∀ (o : Option Va) (L' : LH) (v : V) (H' : Hp) (al' : List Addr), NPost X.K X.mg H al T L (outV L L' o) Q E → Stp X.K X.mg H al T L H' al' T L' → (∀ u be, al' = al ++ be → o = some u → Rp X.K X.mg (mask H' (al ++ T)) al v u) → Q v H' := by
    intro o L' v H' al' h s k
    cases o with
    | none => exact h.elim
    | some u =>
      simp only [outV] at h
      split at h
      · rename_i hk
        obtain ⟨be, e, _⟩ := s.ext
        exact h v H' al (exitS r0 s hk) (k u be e rfl)
      · exact h.elim
  cases r with
  | nx env' L' => exact fun σ' H' al' s c => one _ L' .non H' al' h s fun u be e eu => by cases eu; exact .d .non
  | rt u L' =>
      intro v H' al' s q
      refine one _ L' v H' al' h s fun u' be e eu => ?_
      subst e
      exact (settle_ok r0.len s.rel 9).1 v u u' q eu
  | rf o L' =>
      intro a H' al' ha s q
      have s' := Stp.drop (te := [a]) (fun b hb => by have : b = a := by simpa using hb
                                                      rw [this]; exact ha) s
      refine one _ L' (.ref a) H' al' h s' fun u' be e eu => ?_
      subst e
      have n := r0.fresh ha
      refine (settle_ok r0.len s'.rel 9).2 a o u' n.1 n.2 ?_ eu
      have m : Le (mask H' ((al ++ be) ++ (a :: T))) (mask H' ((al ++ be) ++ T)) := fun b u e => by
        obtain ⟨n, e⟩ := of_mask e
        exact mask_of (fun z => n (by simp only [List.mem_append, List.mem_cons] at z ⊢; exact z.imp id .inr)) e
      exact ObR.le m (ALe.refl _) (fun _ z => z) q
  | bk _ _ => exact h.elim
  | ct _ _ => exact h.elim
  | exc c f env' L' =>
    intro cls d σ' H' al' s _ q
    simp only at h
    split at h
    · rename_i hk
      obtain ⟨be, e, _⟩ := s.ext
      subst e
      exact h cls d H' al (exitS r0 s hk) (ExR.le (mask_more H' al be T) q)
    · exact h.elim
  | stuck => exact h.elim
theorem fn_body (F : FunD K x qual params body scope dvs kws f fd) {N ps : List Str} {k np nl : Nat} {bf : SFn} (S : FnScope N ps scope) (hnp : ps.length = np) (hnl : N.length = nl) (hle : np ≤ nl)
    (hb : ∀ (cdv : Value) (A : Around) (outer : List Env) (s : Shared) (H : Hp) (E : XK), A.guards = some [] → Room k (A.deeper (envOfC qual scope s.heap.objs.size f cdv)) → SB (cxOf (L2.CX P w) P w K mg base N qual scope f cdv A outer s H E) (WxE E) body bf) :
    FnG P w K mg base (L2.CX P w) (k + 1) f fd ps (spOf K mg np (mkFn np nl bf)) := by
  refine fnG_of F S (fun vs H Q E h => by rw [h.1, hnp]) (fun cdv A outer s H vs Q E hg hr h => ⟨_, hb cdv A outer s H E hg hr, ?_⟩)
  obtain ⟨hl, ws, al, T, L, r, rs, h⟩ := h
  have e := Paired.length rs
  subst hnl
  refine ⟨_, L, al, T, conf_start r rs (by omega), ?_⟩
  exact body_end (X := cxOf (L2.CX P w) P w K mg base N qual scope f cdv A outer s H E) rfl rfl r (by omega) h
end
section
variable {X : Cx} {Wx : WX} {k : Nat} {f : Addr} {fd : FuncData} {ps : List Str} {np : Nat} {F : Fn} {x : Str} {p pos : Pos} {e : Expr} {es : List Expr} {fs : En → LH → Res (List Va)}
def eCall (F : Fn) (fs : En → LH → Res (List Va)) : EF := fun env L => (fs env L).bind F
theorem call_sp {σ : St} {H : Hp} {Q : VK} (n : NP np F) (h : Rdg X Wx (RV X) (eCall F fs) σ H Q) : tCallS (spOf X.K X.mg np F) (WE Wx) (Rdg X Wx (RVs X) fs) σ H Q := by
  obtain ⟨env, L, al, T, c, q⟩ := h
  refine rseq (R := RVs X) c q fun vs H1 ws L1 al1 c1 s1 r1 q1 => ?_
  have hl : ws.length = np := by
    by_cases z : ws.length = np
    · exact z
    · rw [n ws L1 z] at q1; exact q1.elim
  refine ⟨by rw [Paired.length r1, hl], ws, al1, T, L1, c1.rel, r1, ?_⟩
  revert q1
  generalize F ws L1 = r
  intro q1
  cases r with
  | ok w L2 => exact fun v H' al' s q => q1 v H' al' s q
  | exc c f L2 => exact fun cls d H' al' s q => q1 cls d H' al' s q
  | stuck => exact q1
theorem pe_callG {sp : Sp} {E : St → XK} {t : TA} (G : FnG X.prog X.w X.K X.mg X.base (L2.CX X.prog X.w) k f fd ps sp) (hg0 : X.A.guards = some []) (hr : Room k X.A) (hg : Gl X x) (hm : X.mg x = some (.ref f)) (hk : PySem.W.keepIn X.K (.ref f) = true)
    (hb : Binds X.K fd ps []) (hx : ∀ σ, PassesAt (L2.CX X.prog X.w) X σ (E σ)) (ha : PA X (e :: es) t) (hdb : (x == ("__debug__" : Str)) = false) (he : starEach (e :: es) X.env = (false, eval e X.env) :: starEach es X.env)
    (hpl : (backTo pos (starEach es X.env)).any (·.1) = false) : PE X (.Call (.Name x p) (e :: es) [] pos) (tCallS sp E t) := by
  refine ⟨fun pins s σ H Q I h => wpAny_Call_Name_kw (ld_glob I hg hm ?_ hdb)⟩
  exact PySem.W.callWith_K (h₀ := X.base) I.ok.mod.kin hk (thn (ha.run pos pins s σ H _ I h) fun us s1 ⟨vs, H1, I1, r, q⟩ => ⟨I1.kIn, run_fnG G hg0 hr hb (hx σ) I1 r q⟩) he hpl
theorem se_call (G : FnG X.prog X.w X.K X.mg X.base (L2.CX X.prog X.w) k f fd ps (spOf X.K X.mg np F)) (n : NP np F) (tk : Takes X Wx) (hg0 : X.A.guards = some []) (hr : Room k X.A) (hg : Gl X x) (hm : X.mg x = some (.ref f)) (hk : PySem.W.keepIn X.K (.ref f) = true) (hb : Binds X.K fd ps [])
    (ha : SA X Wx (e :: es) fs) (hdb : (x == ("__debug__" : Str)) = false := by decide) (he : starEach (e :: es) X.env = (false, eval e X.env) :: starEach es X.env := by rfl) (hpl : (backTo pos (starEach es X.env)).any (·.1) = false := by rfl) :
    SE X Wx (.Call (.Name x p) (e :: es) [] pos) (eCall F fs) :=
  PE.imp (pe_callG (E := WE Wx) G hg0 hr hg hm hk hb (fun σ => passAt tk σ) ha hdb he hpl) fun _ _ _ h => call_sp n h
end
end L2.HW
namespace L2.HW
open PySem PySem.Spec PyProof.Rows
section
variable {X : Cx} {Wx : WX}
def eMeth (chk : LH → Va → Bool) (g : Va → List Va → LH → Res Va) (fo : EF) (fs : En → LH → Res (List Va)) : EF := fun env L => (fo env L).bind fun w L1 => if chk L1 w then (fs env L1).bind fun ws L2 => g w ws L2 else .stuck
def OkM (X : Cx) (r : V → List V → Hp → VK → Prop) (g : Va → List Va → LH → Res Va) : Prop := ∀ (Wx : WX) (σ : St) (H : Hp) (al T : List Addr) (L : LH) (x : V) (xs : List V) (w : Va) (ws : List Va) (Q : VK), Rel X.K X.mg H al T L → RV X (mask H (al ++ T)) al x w → RVs X (mask H (al ++ T)) al xs ws →
  GPost X Wx σ H al T L (RV X) (g w ws L) Q → r x xs H Q
def OkTy (X : Cx) (T : String) (chk : LH → Va → Bool) : Prop := ∀ (H : Hp) (al U : List Addr) (L : LH) (x : V) (w : Va), Rel X.K X.mg H al U L → RV X (mask H (al ++ U)) al x w → chk L w = true → tyV X.K T x H
variable {o : Expr} {es : List Expr} {e : Expr} {fo : EF} {fs : En → LH → Res (List Va)} {name : Str} {apos cpos : Pos} {T id : String} {r : V → List V → Hp → VK → Prop} {chk : LH → Va → Bool} {g : Va → List Va → LH → Res Va}
theorem se_meth (pa : PlainAttrs T) (slot : Slot T name id) (hty : typeOf (.builtin id) = pure (.type "method_descriptor")) (hm : MtR X id r) (ok : OkM X r g) (ty : OkTy X T chk) (ho : SE X Wx o fo) (ha : SA X Wx (e :: es) fs)
    (hbase : attributeBase o name X.env (eval o X.env) = eval o X.env := by rfl)
    (hfew : ((backTo cpos (starEach (e :: es) X.env)).all (fun x => !x.1) && (backToKw cpos (keywordEach [] X.env)).all (fun x => x.1.isSome)
      && decide ((e :: es).length + ([] : List Keyword).length + (if ([] : List Keyword).isEmpty then 0 else 1) < 30)) = true := by rfl)
    (hline : (apos.endLine == cpos.line) = true := by rfl) (hs : starEach (e :: es) X.env = (false, eval e X.env) :: starEach es X.env := by rfl) (hplain : (backTo cpos (starEach es X.env)).any (·.1) = false := by rfl) :
    SE X Wx (.Call (.Attribute o name apos) (e :: es) [] cpos) (eMeth chk g fo fs) :=
  PE.imp (pe_bm pa slot hty hm ho ha hbase hfew hline hs hplain) fun σ H Q ⟨env, L, al, U, c, h⟩ => by
    refine rseq (R := RV X) c h fun v H1 w L1 al1 c1 s1 r1 h1 => ?_
    split at h1
    · rename_i hc
      refine ⟨ty H1 al1 U L1 v w c1.rel r1 hc, ?_⟩
      refine rseq (R := RVs X) c1 h1 fun vs H2 ws L2 al2 c2 s2 r2 h2 => ?_
      exact ok Wx σ H2 al2 U L2 v vs w ws Q c2.rel (s2.rp r1) r2 h2
    · exact h1.elim
def isLs : LH → Va → Bool := fun L w => match w with
  | .d (.list _) => true
  | .loc n => match L[n]? with
    | some (some (.lst _)) => true
    | _ => false
  | _ => false
theorem ty_list : OkTy X "list" isLs := by
  intro H al U L x w r q h
  unfold isLs at h
  split at h
  · obtain ⟨a, vs, rfl, sq, _⟩ := seq_ok r q (seq_list L _)
    cases q with
    | d q => cases q with | lst e1 e2 => exact .inl ⟨rfl, _, SqL.of (of_mask e1).2⟩
  · split at h
    · rename_i n ws e
      obtain ⟨a, vs, rfl, _, e3, _⟩ := loc_lst r q e
      exact .inl ⟨rfl, vs, SqL.of e3⟩
    · cases h
  · cases h
theorem gset {σ : St} {H : Hp} {al T : List Addr} {L : LH} {n : Nat} {a : Addr} {ws us : List Va} {vs : List V} {w : Va} {v : V} {Q : VK} (r : Rel X.K X.mg H al T L) (ea : al[n]? = some a) (e : L[n]? = some (some (.lst ws)))
    (h : GPost X Wx σ H al T L (RV X) (.ok w (L.set n (some (.lst us)))) Q) (rv : RVs X (mask H (al ++ T)) al vs us) (rw_ : RV X (mask H (al ++ T)) al v w) : Q v (upd H a (.lst vs)) := by
  have m : mask (upd H a (.lst vs)) (al ++ T) = mask H (al ++ T) := mask_in (List.mem_append_left _ (List.mem_of_getElem? ea))
  exact h v _ al (Rel.write r ea e ⟨vs, upd_same, rv⟩) (by rw [m]; exact rw_)
def mAppend : Va → List Va → LH → Res Va := fun w ws L => match w, ws with
  | .loc n, [v] => match L[n]? with
    | some (some (.lst us)) => if us.length < sizeLine then .ok (.d .none) (L.set n (some (.lst (us ++ [v])))) else .stuck
    | _ => .stuck
  | _, _ => .stuck
theorem ok_append : OkM X rAppend mAppend := by
  intro Wx σ H al T L x xs w ws Q r q qs h
  unfold mAppend at h
  split at h
  · rename_i n v
    split at h
    · rename_i us e
      split at h
      · rename_i hz
        obtain ⟨a, vs, rfl, ea, ha, rr⟩ := loc_lst r q e
        obtain ⟨y, rfl, qy⟩ := rps_1 qs
        exact ⟨a, vs, y, rfl, rfl, ha, by rw [Paired.length rr]; exact hz, gset r ea e h (rps_app rr (.cons qy .nil)) (.d .non)⟩
      · exact h.elim
    · exact h.elim
  · exact h.elim
theorem se_append (ho : SE X Wx o fo) (ha : SA X Wx [e] fs) (hbase : attributeBase o "append" X.env (eval o X.env) = eval o X.env := by rfl)
    (hfew : ((backTo cpos (starEach [e] X.env)).all (fun x => !x.1) && (backToKw cpos (keywordEach [] X.env)).all (fun x => x.1.isSome)
      && decide ([e].length + ([] : List Keyword).length + (if ([] : List Keyword).isEmpty then 0 else 1) < 30)) = true := by rfl)
    (hline : (apos.endLine == cpos.line) = true := by rfl) (hs : starEach [e] X.env = (false, eval e X.env) :: starEach [] X.env := by rfl) (hplain : (backTo cpos (starEach [] X.env)).any (·.1) = false := by rfl) :
    SE X Wx (.Call (.Attribute o "append" apos) [e] [] cpos) (eMeth isLs mAppend fo fs) :=
  se_meth PySem.F.plainAttrs_list PySem.F.slot_list_append PySem.F.type_list_append mt_append ok_append ty_list ho ha hbase hfew hline hs hplain
def mInsert : Va → List Va → LH → Res Va := fun w ws L => match w, ws with
  | .loc n, [.d (.int i), v] => match L[n]? with
    | some (some (.lst us)) => if us.length < sizeLine ∧ 0 ≤ i ∧ i < 2 ^ 63 then .ok (.d .none) (L.set n (some (.lst (us.take i.toNat ++ [v] ++ us.drop i.toNat)))) else .stuck
    | _ => .stuck
  | _, _ => .stuck
theorem ok_insert : OkM X (fun x vs H Q => ∃ (l : Addr) (xs : List V) (i : Int) (y : V), x = .ref l ∧ vs = [.int i, y] ∧ H l = some (.lst xs) ∧ xs.length < sizeLine ∧ 0 ≤ i ∧ i < 2 ^ 63 ∧
    Q .non (upd H l (.lst (xs.take i.toNat ++ [y] ++ xs.drop i.toNat)))) mInsert := by
  intro Wx σ H al T L x xs w ws Q r q qs h
  unfold mInsert at h
  split at h
  · rename_i n i v
    split at h
    · rename_i us e
      split at h
      · rename_i hz
        obtain ⟨a, vs, rfl, ea, ha, rr⟩ := loc_lst r q e
        obtain ⟨z, y, rfl, qz, qy⟩ := rps_2 qs
        refine ⟨a, vs, i, y, rfl, by rw [dq_int (rp_d qz)], ha, by rw [Paired.length rr]; exact hz.1, hz.2.1, hz.2.2, gset r ea e h (rps_app (rps_app (rps_take _ rr) (.cons qy .nil)) (rps_drop _ rr)) (.d .non)⟩
      · exact h.elim
    · exact h.elim
  · exact h.elim
def mPop0 : Va → List Va → LH → Res Va := fun w ws L => match w, ws with
  | .loc n, [] => match L[n]? with
    | some (some (.lst us)) => match us[us.length - 1]? with
      | some u => .ok u (L.set n (some (.lst us.dropLast)))
      | none => .stuck
    | _ => .stuck
  | _, _ => .stuck
def eNeg (f : EF) : EF := fun env L => (f env L).bind fun w L1 => match w with
  | .d (.int i) => .ok (.d (.int (-i))) L1
  | _ => .stuck
theorem se_neg {a : Expr} {f : EF} {pos : Pos} (h : SE X Wx a f) : SE X Wx (.UnaryOp .USub a pos) (eNeg f) :=
  PE.imp (pe_un un_neg h) fun σ H Q ⟨env, L, al, U, c, h⟩ => by
    refine rseq (R := RV X) c h fun v H1 w L1 al1 c1 s1 r1 h1 => ?_
    split at h1
    · rename_i i
      exact ⟨i, dq_int (rp_d r1), gok c1.rel h1 (.d (.int _))⟩
    · exact h1.elim
mutual
theorem dq_reads {pins : List (Addr × Obj)} {σ : St} {H : Hp} {s : Shared} (I : Inv X pins σ H s) : ∀ {v : V} {x : PyData} {u : Value}, Dq H v x → RelV v u → ∃ as, Reads s.heap u x as
  | _, _, _, .non, r => by cases r; exact ⟨_, .none⟩
  | _, _, _, .bl b, r => by cases r; exact ⟨_, .bool b⟩
  | _, _, _, .int i, r => by obtain ⟨t, rfl⟩ := r; exact ⟨_, .int i t⟩
  | _, _, _, .str x, r => by obtain ⟨t, rfl⟩ := r; exact ⟨_, .str x t⟩
  | _, _, _, .lst e q, r => by
    cases r
    obtain ⟨z, its, n, rv, hl, e2⟩ := I.lstM e
    obtain ⟨as, ra⟩ := dqs_reads I q rv
    exact ⟨_, .list e2 rfl rfl (by simpa using ra)⟩
  | _, _, _, .tup e q, r => by
    cases r
    obtain ⟨_, its, rv, o, e2, c, n, d⟩ := I.hok _ _ e
    obtain ⟨as, ra⟩ := dqs_reads I q rv
    exact ⟨_, .tuple e2 c d (by simpa using ra)⟩
theorem dqs_reads {pins : List (Addr × Obj)} {σ : St} {H : Hp} {s : Shared} (I : Inv X pins σ H s) : ∀ {v : List V} {x : List PyData} {u : List Value}, DqAll H v x → Vals v u → ∃ as, ReadsAll s.heap u x as
  | _, _, _, .nil, .nil => ⟨_, .nil⟩
  | _, _, _, .cons a b, .cons c d => by
    obtain ⟨_, h1⟩ := dq_reads I a c
    obtain ⟨_, h2⟩ := dqs_reads I b d
    exact ⟨_, .cons h1 h2⟩
end
mutual
theorem dq_noDict {H : Hp} : ∀ {v : V} {x : PyData}, Dq H v x → x.hasDict = false
  | _, _, .non => by simp [PyData.hasDict]
  | _, _, .bl b => by simp [PyData.hasDict]
  | _, _, .int i => by simp [PyData.hasDict]
  | _, _, .str x => by simp [PyData.hasDict]
  | _, _, .lst e q => by simp [PyData.hasDict, dqs_noDict q]
  | _, _, .tup e q => by simp [PyData.hasDict, dqs_noDict q]
theorem dqs_noDict {H : Hp} : ∀ {v : List V} {x : List PyData}, DqAll H v x → PyData.hasDictAll x = false
  | _, _, .nil => by simp [PyData.hasDictAll]
  | _, _, .cons a b => by simp [PyData.hasDictAll, dq_noDict a, dqs_noDict b]
end
def okShow (x : PyData) : Prop := x.showable = true ∧ x.depth < 180 ∧ x.shown.length ≤ sizeLine
def rRepr : List V → Hp → VK → Prop := fun xs H Q => ∃ v x, xs = [v] ∧ Dq H v x ∧ okShow x ∧ Q (.str x.shown) H
theorem call_reprD (hg : X.A.guards = some []) (hu : X.A.units + 200 < cLine) : CallR X (.builtin "repr") rRepr := by
  intro pins s σ H xs us Q I r h
  obtain ⟨v, x, rfl, dq, ⟨h1, h2, h3⟩, q⟩ := h
  obtain ⟨u, rfl, ru⟩ := Vals.one r
  cases dq with
  | non => cases ru; exact PySem.P.repr_of_none ⟨.str _, H, I.tok _, ⟨_, rfl⟩, q⟩
  | bl b => cases ru; exact PySem.P.repr_of_bool ⟨.str _, H, I.tok _, ⟨_, rfl⟩, q⟩
  | int i => obtain ⟨t, rfl⟩ := ru; exact PySem.P.repr_of_int (by simpa [PyData.showable] using h1) ⟨.str _, H, I.tok _, ⟨_, rfl⟩, q⟩
  | str z => obtain ⟨t, rfl⟩ := ru; exact PySem.P.repr_of_str ⟨.str _, H, I.tok _, ⟨_, rfl⟩, q⟩ (by simpa [PyData.shown] using h3)
  | lst e d =>
    cases ru
    obtain ⟨as, ra⟩ := dq_reads I (.lst e d) rfl
    exact PySem.repr_of_reads' ra h1 (PyData.noDict_hsm (dq_noDict (Dq.lst e d))) hg (by omega) (fun _ _ e => e) (fun h' u tk k => ⟨.str _, H, I.kept k, ⟨_, rfl⟩, q⟩) h3
  | tup e d =>
    cases ru
    obtain ⟨as, ra⟩ := dq_reads I (.tup e d) rfl
    exact PySem.repr_of_reads' ra h1 (PyData.noDict_hsm (dq_noDict (Dq.tup e d))) hg (by omega) (fun _ _ e => e) (fun h' u tk k => ⟨.str _, H, I.kept k, ⟨_, rfl⟩, q⟩) h3
open Classical in
noncomputable def cRepr : List Va → LH → Res Va := fun ws L => match ws with
  | [w] => match w.data L with
    | some x => if okShow x then .ok (.d (.str x.shown)) L else .stuck
    | none => .stuck
  | _ => .stuck
theorem ok_repr : OkC X rRepr cRepr := by
  intro Wx σ H al T L xs ws Q r q h
  unfold cRepr at h
  split at h
  · rename_i w
    obtain ⟨v, rfl, q1⟩ := rps_1 q
    split at h
    · rename_i x e
      split at h
      · rename_i hs
        exact ⟨v, x, rfl, data_ok r q1 e, hs, gok r h (.d (.str _))⟩
      · exact h.elim
    · exact h.elim
  · exact h.elim
end
end L2.HW
namespace HT
open PySem PySem.Spec PyProof.Rows
end HT
namespace L2.HW
open PySem PySem.Spec PyProof.Rows
section
variable {X : Cx} {Wx : WX}
def eRev (f : EF) : EF := fun env L => (f env L).bind fun w L1 => match w.data L1 with
  | some (.list xs) => .ok (.d (.list xs.reverse)) L1
  | some (.tuple xs) => .ok (.d (.tuple xs.reverse)) L1
  | _ => .stuck
end
end L2.HW
namespace L2.HW
open PySem PySem.Spec PyProof.Rows
theorem cx_none {P : Program} {w : World} {H : Hp} {s : Shared} {e : Value} {s' : Shared} (h : L2.CX P w [] H s (fun _ _ _ => False) e s') : False := by
  obtain ⟨_, _, _, _, _, _, _, _, _, _, _, _, z⟩ := h
  exact z
theorem law_runs {P : Program} {w : World} {K : PySem.W.Frag} {mg mb : Str → Option Value} {k : Nat} {fa a : Addr} {x : Str} {sp : Sp} {s : Shared} {vs : List Value} {ns : List Int}
    (kin : K.In s.heap) (gl : s.heap.Ns mainGlobals mg) (bl : s.heap.Ns builtinsNs mb) (bb : ∀ x : Str, x ≠ "__name__" → mb x = bootBuiltins x) (nl : s.heap.NoLimit) (ng : s.gens = #[])
    (at_ : s.heap.get? a = some { cls := .type "list", data := .seq vs.toArray }) (hi : IntsAre vs ns) (hn : ns.length ≤ sizeLine) (hr : Room k callerA)
    (F : ∀ base : Heap, K.In base → base.Ns mainGlobals mg → ∃ fd, Binds K fd [x] [] ∧ FnG P w K mg base (L2.CX P w) k fa fd [x] sp)
    (hsp : ∀ H : Hp, SqL K H a (ns.map V.int) → sp [.ref a] H (fun v _ => v = .bl true) fun _ _ _ => False) :
    codeAny (model P w) callerA (.call (.ref fa) ⟨[.ref a], []⟩) (fun r s2 => r = .ok (.ret (.bool true)) ∧ OldK s.heap s2.heap ∧ s2.os = s.os ∧ AllBare s2.gens) s := by
  have rv := vals_ints hi
  have hlen := hi.length
  have core : ∀ H : Hp, (∀ b, H b = none ∨ (b = a ∧ K.lookup a = none ∧ H b = some (.frz { cls := .type "list", data := .seq vs.toArray } (.lst (ns.map V.int))))) → SqL K H a (ns.map V.int) → HOk P w H s.heap →
      codeAny (model P w) callerA (.call (.ref fa) ⟨[.ref a], []⟩) (fun r s2 => r = .ok (.ret (.bool true)) ∧ OldK s.heap s2.heap ∧ s2.os = s.os ∧ AllBare s2.gens) s := by
    intro H only sq ok
    have nod : ∀ (b : Addr) (o : Obj), s.heap.get? b = some o → (∀ (ys : Array Value) (m : Nat), o.data ≠ .seq ys m) → H b = none := by
      intro b o e d
      rcases only b with z | ⟨z, _, _⟩
      · exact z
      · subst z
        rw [at_] at e
        cases e
        exact absurd rfl (d _ _)
    have keepNs : ∀ {b : Addr} {m : Str → Option Value}, s.heap.Ns b m → (hidT s.heap H).Ns b m := by
      rintro b m ⟨o, es, ep, e, d, r⟩
      exact ⟨o, es, ep, hidT_get e (nod b o e fun ys m z => by rw [d] at z; cases z), d, r⟩
    have kin2 : K.In (hidT s.heap H) := by
      intro b o e
      refine hidT_get (kin b o e) ?_
      rcases only b with z | ⟨z, z2, _⟩
      · exact z
      · rw [z, z2] at e; cases e
    obtain ⟨mc, l1, l2⟩ := nl
    have md : Mod K mg (hidT s.heap H) := ⟨kin2, keepNs gl, ⟨mb, keepNs bl, bb⟩, ⟨mc, keepNs l1, l2⟩⟩
    have en : Env0 P w K mg (hidT s.heap H) callerA [] s H :=
      { frames := rfl, mod := md, bs := fun b o e => of_hidT e, bsz := Nat.le_of_eq (hidT_size _ _), funs := trivial, frf := (fun b z => absurd (show b ∈ ([] : List Addr) from z) (by simp)), hok := ok, bare := .of_eq ng }
    obtain ⟨fd, bt, fg⟩ := F _ kin2 (keepNs gl)
    have run := fg.go callerA [] s H ⟨[.ref a], []⟩ [.ref a] [.ref a] _ _ rfl hr en (bt s [.ref a] kin rfl) (.cons rfl .nil) (hsp H sq)
    refine codeAny_mono run ?_
    intro r s2 z
    match r, z with
    | .error e, z => exact (cx_none z).elim
    | .ok .next, z => exact z.elim
    | .ok .brk, z => exact z.elim
    | .ok .cont, z => exact z.elim
    | .ok (.ret u), ⟨v, H2, os, bare, un, ok2, rl, q⟩ =>
      have q : v = .bl true := q
      subst q
      have eu : u = Value.bool true := rl
      subst eu
      refine ⟨rfl, OldK.of_keep ?_, os, bare⟩
      intro b o e
      rcases only b with z | ⟨_, _, z⟩
      · exact un.keep b o e z (fun y => absurd (show b ∈ ([] : List Addr) from y) (by simp)) (by simp)
      · have g1 := (ok b _ z).1
        have g2 := (ok2 b _ (un.frzs b _ _ z)).1
        rw [e] at g1
        cases g1
        exact g2
  by_cases hk : K.lookup a = none
  · refine core (fun b => if b = a then some (.frz { cls := .type "list", data := .seq vs.toArray } (.lst (ns.map V.int))) else none) (fun b => ?_) (.inl (.inr ⟨_, if_pos rfl⟩)) ?_
    · by_cases hb : b = a
      · exact .inr ⟨hb, hk, if_pos hb⟩
      · exact .inl (if_neg hb)
    · intro b u z
      by_cases hb : b = a
      · have z := (if_pos hb).symm.trans z
        cases z
        rw [hb]
        exact ⟨at_, by simpa using hn, vs, _, rv, at_⟩
      · have z := (if_neg hb).symm.trans z
        cases z
  · obtain ⟨o, hk⟩ : ∃ o, K.lookup a = some o := by
      cases e : K.lookup a with
      | none => exact absurd e hk
      | some o => exact ⟨o, rfl⟩
    have e := kin a o hk
    rw [at_] at e
    cases e
    exact core (fun _ => none) (fun _ => .inl rfl) (.inr ⟨_, vs.toArray, _, hk, rfl, rfl, rfl, by simpa [hlen] using hn, by simpa using rv⟩) fun b u z => nomatch (show (none : Option HO) = some u from z)
theorem walk_hw {l : PySem.W.OpenLaw} {n k : Nat} {q : Program} {loose : List Str} {XP : (Str → Option Value) → Heap → Prop} {YP : World → Heap → Prop} {d : DefRec} {x : Str} {Fl : Fn}
    (hn : l.most = some n) (hn2 : n ≤ sizeLine) (hdf : d.params.defaults = []) (hr : Room k callerA) (law : ∀ ns : List Int, ns.length ≤ n → ∃ L, Fl [.scr ns] [] = .ok (.d (.bool true)) L)
    (F : ∀ (w : World) (mg : Str → Option Value) (fa : Addr) (h : Heap), YP w h → h.Ns mainGlobals mg → mg d.name = some (.ref fa) →
      ∃ (K : PySem.W.Frag), K.In h ∧ ∀ base : Heap, K.In base → base.Ns mainGlobals mg → ∃ fd, Binds K fd [x] [] ∧ FnG l.prog w K mg base (L2.CX l.prog w) k fa fd [x] (spOf K mg 1 Fl)) :
    PySem.W.WalkO q loose XP YP l.row.toRowW d [] (fun f vs => PySem.call f vs) := by
  refine Att.attach_call hn hdf fun w s₀ s₁ mg mb fa o pm cd doc a vs ns G Y ho hd hcd hmg hobj hints hlen hg => ?_
  obtain ⟨K, kin, hF⟩ := F w mg fa _ Y G.T.g hmg
  refine law_runs kin G.T.g G.T.b G.T.builtins G.T.nolimit hg hobj hints (Nat.le_trans hlen hn2) hr hF fun H sq => ?_
  obtain ⟨L, e⟩ := law ns hlen
  refine ⟨rfl, [.scr ns], [], [], [], ⟨rfl, .nil, (fun _ z => nomatch z), (fun _ z => Or.elim z (fun z => nomatch z) (fun z => nomatch z)), (fun n o z => by simp at z)⟩, .cons (.scr (SqL.le (fun b o z => ?_) sq)) .nil, ?_⟩
  · exact mask_of (by simp) z
  · rw [e]
    intro v H' al' s r
    cases r with
    | d r => cases r; rfl
end L2.HW
namespace L2.HW
open PySem PySem.Spec PyProof.Rows
structure Ctx (X : Cx) (Wx : WX) (k : Nat) : Prop where
  gd : X.A.guards = some []
  rm : Room k X.A
  tk : Takes X Wx
  cm : X.calm = true
  nd : X.N.Nodup
structure CtxF (X : Cx) (Wx : WX) (k : Nat) : Prop extends Ctx X Wx k where
  pa : PassesOwn (model X.prog X.w) X.A X.env X.xe
theorem takesFX {X : Cx} : Takes X FX := fun u s' ⟨_, _, _, _, _, _, _, _, _, _, _, _, _, _, _, _, z⟩ => z.elim
section
variable {X : Cx} {Wx : WX} {k : Nat}
theorem Ctx.bk (c : Ctx X Wx k) (s : Shared) (H : Hp) (sc : Scope) (e : Env) (fp : List Addr) : Ctx (X.blk s H sc e fp) FX k := ⟨c.gd, c.rm, takesFX, c.cm, c.nd⟩
theorem Ctx.u0 (c : Ctx X Wx k) : X.A.units < cLine := by have := c.rm.un; omega
theorem Ctx.u1 (c : Ctx X Wx k) : X.A.units + 1 < cLine := by have := c.rm.un; omega
theorem Ctx.u64 (c : Ctx X Wx k) : X.A.units + 64 < cLine := by have := c.rm.un; omega
theorem Ctx.u65 (c : Ctx X Wx k) : X.A.units + 65 < cLine := by have := c.rm.un; omega
theorem Ctx.u200 (c : Ctx X Wx k) : X.A.units + 200 < cLine := by have := c.rm.un; omega
end
def Def (K : PySem.W.Frag) (mg : Str → Option Value) (x : Str) (st : Stmt) : Prop := ∃ f fd, mg x = some (.ref f) ∧ FunD K x x (defArgs st) (defBody st) (defScope st) [] [] f fd
def Has (P : Program) (w : World) (K : PySem.W.Frag) (mg : Str → Option Value) (base : Heap) (x : Str) (ps : List Str) (k : Nat) (F : Fn) : Prop :=
  ∃ f fd, mg x = some (.ref f) ∧ PySem.W.keepIn K (.ref f) = true ∧ Binds K fd ps [] ∧ NP ps.length F ∧ FnG P w K mg base (L2.CX P w) k f fd ps (spOf K mg ps.length F)
def BindE (x : Str) (st : Stmt) (ps : List Str) : Prop := ∀ (kV doc pm : Value) (an : Option Addr) (cdv ct : Value) (us : List Value), us.length = ps.length →
  bindArgs (PySem.W.fnOf x x (defArgs st) (defBody st) (defScope st) .none kV doc pm an cdv ct) ⟨us, []⟩ = pure (ps.zip us)
section
variable {P : Program} {w : World} {K : PySem.W.Frag} {mg : Str → Option Value} {base : Heap} {x : Str} {st : Stmt} {ps N : List Str} {k nl : Nat}
theorem has_of {bf : SFn} (D : Def K mg x st) (hb : BindE x st ps) (S : FnScope N ps (defScope st)) (hnl : N.length = nl) (hle : ps.length ≤ nl)
    (h : ∀ (f : Addr) (cdv : Value) (A : Around) (outer : List Env) (s : Shared) (H : Hp) (E : XK), CtxF (cxOf (L2.CX P w) P w K mg base N x (defScope st) f cdv A outer s H E) (WxE E) k →
      SB (cxOf (L2.CX P w) P w K mg base N x (defScope st) f cdv A outer s H E) (WxE E) (defBody st) bf) : Has P w K mg base x ps (k + 1) (mkFn ps.length nl bf) := by
  obtain ⟨f, fd, hm, F⟩ := D
  refine ⟨f, fd, hm, F.kp, fun s us _ hl => by rw [List.append_nil] at hl ⊢; exact FunD.bindsA F hb s us hl, np_mk, ?_⟩
  refine fn_body F S rfl hnl hle fun cdv A outer s H E hg hr => h f cdv A outer s H E ⟨⟨hg, hr, takes_of rfl rfl rfl rfl, rfl, S.nd⟩, passes_of rfl⟩
theorem law_end {F : Fn} {fa : Addr} {h : Heap} {y : Str} (H : ∀ base : Heap, Has P w K mg base x [y] k F) (hm : mg x = some (.ref fa)) (hK : K.In h) :
    ∃ (K : PySem.W.Frag), K.In h ∧ ∀ base : Heap, K.In base → base.Ns mainGlobals mg → ∃ fd, Binds K fd [y] [] ∧ FnG P w K mg base (L2.CX P w) k fa fd [y] (spOf K mg 1 F) := by
  refine ⟨K, hK, fun base _ _ => ?_⟩
  obtain ⟨f, fd, h1, _, h3, _, h5⟩ := H base
  rw [hm] at h1
  cases h1
  exact ⟨fd, h3, h5⟩
theorem Has.more {F : Fn} {j : Nat} (h : Has P w K mg base x ps k F) (hj : k ≤ j) : Has P w K mg base x ps j F := by
  obtain ⟨f, fd, h1, h2, h3, h4, h5⟩ := h
  exact ⟨f, fd, h1, h2, h3, h4, h5.more hj⟩
end
section
variable {X : Cx} {Wx : WX} {k j : Nat} {ps : List Str} {F : Fn} {x : Str} {p pos : Pos} {e : Expr} {es : List Expr} {fs : En → LH → Res (List Va)}
theorem w_call (c : Ctx X Wx k) (h : Has X.prog X.w X.K X.mg X.base x ps j F) (ha : SA X Wx (e :: es) fs) (hj : j ≤ k := by decide) (hg : Gl X x := by rfl) (hdb : (x == ("__debug__" : Str)) = false := by decide)
    (he : starEach (e :: es) X.env = (false, eval e X.env) :: starEach es X.env := by rfl) (hpl : (backTo pos (starEach es X.env)).any (·.1) = false := by rfl) : SE X Wx (.Call (.Name x p) (e :: es) [] pos) (eCall F fs) := by
  obtain ⟨f, fd, h1, h2, h3, h4, h5⟩ := h
  exact se_call h5 h4 c.tk c.gd (c.rm.mono hj) hg h1 h2 h3 ha hdb he hpl
variable {a b : Expr} {fa fb : EF}
theorem w_v (i : Nat) (hN : X.N[i]? = some x := by rfl) (hv : Vis X.env.scope x := by first | exact Or.inl rfl | exact Or.inr (Or.inl rfl) | exact Or.inr (Or.inr rfl)) (hd : (x == ("__debug__" : Str)) = false := by decide) (hcd : (x == ("__classdict__" : Str)) = false := by decide) :
    SE X Wx (.Name x pos) (eVar i) := se_var hN hv hd hcd
theorem w_add (ha : SE X Wx a fa) (hb : SE X Wx b fb) : SE X Wx (.BinOp a .Add b pos) (eOp opAdd fa fb) := se_op or_add ok_add ha hb
theorem w_sub (ha : SE X Wx a fa) (hb : SE X Wx b fb) : SE X Wx (.BinOp a .Sub b pos) (eOp opSub fa fb) := se_op op_sub ok_sub ha hb
theorem w_mul (ha : SE X Wx a fa) (hb : SE X Wx b fb) : SE X Wx (.BinOp a .Mult b pos) (eOp opMul fa fb) := se_op or_mul ok_mul ha hb
theorem w_div (ha : SE X Wx a fa) (hb : SE X Wx b fb) : SE X Wx (.BinOp a .FloorDiv b pos) (eOp opDiv fa fb) := se_op op_fdivW ok_div ha hb
theorem w_mod (ha : SE X Wx a fa) (hb : SE X Wx b fb) : SE X Wx (.BinOp a .Mod b pos) (eOp opMod fa fb) := se_op op_mod ok_mod ha hb
theorem w_pow (ha : SE X Wx a fa) (hb : SE X Wx b fb) : SE X Wx (.BinOp a .Pow b pos) (eOp opPow fa fb) := se_op op_pow ok_pow ha hb
theorem w_ge (c : Ctx X Wx k) (ha : SE X Wx a fa) (hb : SE X Wx b fb) (hm : behindInMarks .GtE b = false := by rfl) : SE X Wx (.Compare a [.GtE] [b] pos) (eOp opGe fa fb) := se_cmp op_ge ok_ge ha hb hm
theorem w_lt (c : Ctx X Wx k) (ha : SE X Wx a fa) (hb : SE X Wx b fb) (hm : behindInMarks .Lt b = false := by rfl) : SE X Wx (.Compare a [.Lt] [b] pos) (eOp opLt fa fb) := se_cmp (or_lt c.u0) ok_lt ha hb hm
theorem w_eq (c : Ctx X Wx k) (ha : SE X Wx a fa) (hb : SE X Wx b fb) (hm : behindInMarks .Eq b = false := by rfl) : SE X Wx (.Compare a [.Eq] [b] pos) (eOp opEq fa fb) := se_cmp (or_eq c.u64) ok_eq ha hb hm
theorem w_ne (c : Ctx X Wx k) (ha : SE X Wx a fa) (hb : SE X Wx b fb) (hm : behindInMarks .NotEq b = false := by rfl) : SE X Wx (.Compare a [.NotEq] [b] pos) (eOp opNe fa fb) := se_cmp (or_ne c.u64) ok_ne ha hb hm
theorem w_in (c : Ctx X Wx k) (ha : SE X Wx a fa) (hb : SE X Wx b fb) (hm : behindInMarks .In b = false := by rfl) : SE X Wx (.Compare a [.In] [b] pos) (eOp (opIn false) fa fb) := se_cmp (op_in_any c.u65) ok_in ha hb hm
theorem w_isN (c : Ctx X Wx k) (ha : SE X Wx a fa) (hb : SE X Wx b fb) (hm : behindInMarks .Is b = false := by rfl) : SE X Wx (.Compare a [.Is] [b] pos) (eOp opIsN fa fb) := se_cmp op_isN ok_isN ha hb hm
theorem t_gt (c : Ctx X Wx k) (ha : SE X Wx a fa) (hb : SE X Wx b fb) (hm : behindInMarks .Gt b = false := by rfl) : ST X Wx (.Compare a [.Gt] [b] pos) (tVal (eOp opGt fa fb)) := st_cmp op_gt ok_gt ha hb hm
theorem t_ge (c : Ctx X Wx k) (ha : SE X Wx a fa) (hb : SE X Wx b fb) (hm : behindInMarks .GtE b = false := by rfl) : ST X Wx (.Compare a [.GtE] [b] pos) (tVal (eOp opGe fa fb)) := st_cmp op_ge ok_ge ha hb hm
theorem t_lt (c : Ctx X Wx k) (ha : SE X Wx a fa) (hb : SE X Wx b fb) (hm : behindInMarks .Lt b = false := by rfl) : ST X Wx (.Compare a [.Lt] [b] pos) (tVal (eOp opLt fa fb)) := st_cmp (or_lt c.u0) ok_lt ha hb hm
theorem t_eq (c : Ctx X Wx k) (ha : SE X Wx a fa) (hb : SE X Wx b fb) (hm : behindInMarks .Eq b = false := by rfl) : ST X Wx (.Compare a [.Eq] [b] pos) (tVal (eOp opEq fa fb)) := st_cmp (or_eq c.u64) ok_eq ha hb hm
theorem t_ne (c : Ctx X Wx k) (ha : SE X Wx a fa) (hb : SE X Wx b fb) (hm : behindInMarks .NotEq b = false := by rfl) : ST X Wx (.Compare a [.NotEq] [b] pos) (tVal (eOp opNe fa fb)) := st_cmp (or_ne c.u64) ok_ne ha hb hm
theorem t_in (c : Ctx X Wx k) (ha : SE X Wx a fa) (hb : SE X Wx b fb) (hm : behindInMarks .In b = false := by rfl) : ST X Wx (.Compare a [.In] [b] pos) (tVal (eOp (opIn false) fa fb)) := st_cmp (op_in_any c.u65) ok_in ha hb hm
theorem t_notIn (c : Ctx X Wx k) (ha : SE X Wx a fa) (hb : SE X Wx b fb) (hm : behindInMarks .NotIn b = false := by rfl) : ST X Wx (.Compare a [.NotIn] [b] pos) (tVal (eOp (opIn true) fa fb)) := st_cmp (op_notIn_any c.u65) ok_in ha hb hm
theorem t_isN (c : Ctx X Wx k) (ha : SE X Wx a fa) (hb : SE X Wx b fb) (hm : behindInMarks .Is b = false := by rfl) : ST X Wx (.Compare a [.Is] [b] pos) (tVal (eOp opIsN fa fb)) := st_cmp op_isN ok_isN ha hb hm
theorem t_notN (c : Ctx X Wx k) (ha : SE X Wx a fa) (hb : SE X Wx b fb) (hm : behindInMarks .IsNot b = false := by rfl) : ST X Wx (.Compare a [.IsNot] [b] pos) (tVal (eOp opNotN fa fb)) := st_cmp op_notN ok_notN ha hb hm
theorem w_ix (c : Ctx X Wx k) (ha : SE X Wx a fa) (hb : SE X Wx b fb) (hs : PlainIx b := by exact fun _ _ => rfl) : SE X Wx (.Subscript a b pos) (eOp opIx fa fb) := se_ix c.u1 ha hb hs
theorem w_len (hm : X.mg "len" = none) (ha : SA X Wx [e] fs) (hg : Gl X "len" := by rfl) (he : starEach [e] X.env = (false, eval e X.env) :: starEach [] X.env := by rfl) (hpl : (backTo pos (starEach [] X.env)).any (·.1) = false := by rfl) :
    SE X Wx (.Call (.Name "len" p) [e] [] pos) (eCallB cLen fs) := se_callB cr_len ok_len hg hm rfl ha (by decide) (by decide) he hpl
theorem w_all (c : Ctx X Wx k) (hm : X.mg "all" = none) (ha : SA X Wx [e] fs) (hg : Gl X "all" := by rfl) (he : starEach [e] X.env = (false, eval e X.env) :: starEach [] X.env := by rfl) (hpl : (backTo pos (starEach [] X.env)).any (·.1) = false := by rfl) :
    SE X Wx (.Call (.Name "all" p) [e] [] pos) (eCallB cAll fs) := se_callB (cr_all c.cm) ok_all hg hm rfl ha (by decide) (by decide) he hpl
theorem w_any (c : Ctx X Wx k) (hm : X.mg "any" = none) (ha : SA X Wx [e] fs) (hg : Gl X "any" := by rfl) (he : starEach [e] X.env = (false, eval e X.env) :: starEach [] X.env := by rfl) (hpl : (backTo pos (starEach [] X.env)).any (·.1) = false := by rfl) :
    SE X Wx (.Call (.Name "any" p) [e] [] pos) (eCallB cAny fs) := se_callB (cr_any c.cm) ok_any hg hm rfl ha (by decide) (by decide) he hpl
theorem w_min2 (c : Ctx X Wx k) (hm : X.mg "min" = none) (ha : SA X Wx [e, a] fs) (hg : Gl X "min" := by rfl) (he : starEach [e, a] X.env = (false, eval e X.env) :: starEach [a] X.env := by rfl) (hpl : (backTo pos (starEach [a] X.env)).any (·.1) = false := by rfl) :
    SE X Wx (.Call (.Name "min" p) [e, a] [] pos) (eCallB cMin2 fs) := se_callB (call_min2 c.cm) ok_min2 hg hm rfl ha (by decide) (by decide) he hpl
theorem w_max2 (c : Ctx X Wx k) (hm : X.mg "max" = none) (ha : SA X Wx [e, a] fs) (hg : Gl X "max" := by rfl) (he : starEach [e, a] X.env = (false, eval e X.env) :: starEach [a] X.env := by rfl) (hpl : (backTo pos (starEach [a] X.env)).any (·.1) = false := by rfl) :
    SE X Wx (.Call (.Name "max" p) [e, a] [] pos) (eCallB cMax2 fs) := se_callB (call_max2 c.cm) ok_max2 hg hm rfl ha (by decide) (by decide) he hpl
theorem w_repr (c : Ctx X Wx k) (hm : X.mg "repr" = none) (ha : SA X Wx [e] fs) (hg : Gl X "repr" := by rfl) (he : starEach [e] X.env = (false, eval e X.env) :: starEach [] X.env := by rfl) (hpl : (backTo pos (starEach [] X.env)).any (·.1) = false := by rfl) :
    SE X Wx (.Call (.Name "repr" p) [e] [] pos) (eCallB cRepr fs) := se_callB (call_reprD c.gd c.u200) ok_repr hg hm rfl ha (by decide) (by decide) he hpl
theorem w_int (hm : X.mg "int" = none) (ha : SA X Wx [e] fs) (hg : Gl X "int" := by rfl) (he : starEach [e] X.env = (false, eval e X.env) :: starEach [] X.env := by rfl) (hpl : (backTo pos (starEach [] X.env)).any (·.1) = false := by rfl) :
    SE X Wx (.Call (.Name "int" p) [e] [] pos) (eCallB cInt fs) := se_callTy call_int1 ok_int hg hm rfl ha (by decide) (by decide) he hpl
theorem w_str (hm : X.mg "str" = none) (ha : SA X Wx [e] fs) (hg : Gl X "str" := by rfl) (he : starEach [e] X.env = (false, eval e X.env) :: starEach [] X.env := by rfl) (hpl : (backTo pos (starEach [] X.env)).any (·.1) = false := by rfl) :
    SE X Wx (.Call (.Name "str" p) [e] [] pos) (eCallB cStr fs) := se_callTy call_str_int ok_str hg hm rfl ha (by decide) (by decide) he hpl
theorem w_tuple (hm : X.mg "tuple" = none) (ha : SA X Wx [e] fs) (hg : Gl X "tuple" := by rfl) (he : starEach [e] X.env = (false, eval e X.env) :: starEach [] X.env := by rfl) (hpl : (backTo pos (starEach [] X.env)).any (·.1) = false := by rfl) :
    SE X Wx (.Call (.Name "tuple" p) [e] [] pos) (eCallB cTuple fs) := se_callTy call_tuple_of ok_tuple hg hm rfl ha (by decide) (by decide) he hpl
variable {f : EF} {i : Nat} {pos' : Pos} {st : Stmt} {sf : SFn}
theorem z_set (c : Ctx X Wx k) (i : Nat) (he : SE X Wx e f) (hi : X.N[i]? = some x := by rfl) (hx : Loc X.env.scope x := by first | exact Or.inl rfl | exact Or.inr rfl) (hs : swapsWith e (some (.Name x pos')) pos.line X.env = pure false := by rfl)
    (hf : X.fn x = true ∨ X.env.scope.names.lookup x = some .local := by first | exact .inl rfl | exact .inr rfl) : SS X Wx (.Assign [.Name x pos'] e pos) (sSet i f) := ss_set c.nd hi hx he hs hf
theorem g_name (c : Ctx X Wx k) (i : Nat) (hi : X.N[i]? = some x := by rfl) (hx : Loc X.env.scope x := by first | exact Or.inl rfl | exact Or.inr rfl) (hf : X.fn x = true ∨ X.env.scope.names.lookup x = some .local := by first | exact .inl rfl | exact .inr rfl) :
    SG X [i] (.Name x pos) (tN i) := sg_name c.nd hi hx hf
theorem z_for {tg iter : Expr} {body : List Stmt} {s : Srcf} {sl : List Nat} {g : Va → En → LH → Res En} {fb : SFn} (c : CtxF X Wx k) (hi : SI X Wx tg iter s) (hg : SG X sl tg g) (hb : SB X Wx body fb)
    (hs : ∀ x, foldedSetIterable iter X.env x = pure x := by intro _; rfl) : SS X Wx (.For tg iter body [] pos) (sFor s g fb) := ss_for c.pa c.cm hi hg hb hs
theorem z_while {body : List Stmt} {t : En → LH → Res Bool} {fb : SFn} (c : CtxF X Wx k) (ht : ST X Wx e t) (hb : SB X Wx body fb) : SS X Wx (.While e body [] pos) (sWhile t fb) := ss_while c.pa ht hb
end
end L2.HW
namespace L2.HW
open PySem PySem.Spec PyProof.Rows
abbrev FnF := List Va → LH → Res Ob
def settleOb (L : LH) (n0 k : Nat) : Ob → Option Ob
  | .lst ws => (mapO (settle L n0 k) ws).map .lst
  | .di kvs => (mapO (fun p : Int × Va => (settle L n0 k p.2).map fun x => (p.1, x)) kvs).map .di
  | .dt kvs => (mapO (fun p : List Int × Va => (settle L n0 k p.2).map fun x => (p.1, x)) kvs).map .dt
  | .ins _ _ => none
@[simp] theorem settleOb_d (L : LH) (n0 k : Nat) (xs : List PyData) : settleOb L n0 k (.lst (xs.map Va.d)) = some (.lst (xs.map Va.d)) := by simp [settleOb, mapO_settle_d]
section
variable {K : PySem.W.Frag} {mg : Str → Option Value} {H H' : Hp} {al al' T T' be : List Addr} {L L' : LH}
theorem settle_in {M' : Hp} {L0 : LH} (r0 : al.length = L0.length) (r : Rel K mg H' (al ++ be) T L') (m : Le (mask H' ((al ++ be) ++ T)) M')
    (hM : ∀ (n : Nat) (b : Addr) (o : Ob), L0.length ≤ n → (al ++ be)[n]? = some b → L'[n]? = some (some o) → ∀ u, H' b = some u → M' b = some u) : ∀ (k : Nat),
    (∀ (v : V) (w u : Va), Rp K mg (mask H' ((al ++ be) ++ T)) (al ++ be) v w → settle L' L0.length k w = some u → Rp K mg M' al v u) ∧
    (∀ (a : Addr) (o : Ob) (u : Va), (∀ z, H' a = some z → M' a = some z) → ObR K mg (mask H' ((al ++ be) ++ T)) (al ++ be) H' a o → settleO L' L0.length k o = some u → Rp K mg M' al (.ref a) u) := by
  have obj : ∀ k, (∀ (v : V) (w u : Va), Rp K mg (mask H' ((al ++ be) ++ T)) (al ++ be) v w → settle L' L0.length k w = some u → Rp K mg M' al v u) →
      (∀ (a : Addr) (o : Ob) (u : Va), (∀ z, H' a = some z → M' a = some z) → ObR K mg (mask H' ((al ++ be) ++ T)) (al ++ be) H' a o → settleO L' L0.length k o = some u → Rp K mg M' al (.ref a) u) := by
    intro k ih a o u see q e
    cases o with
    | lst ws =>
      obtain ⟨vs, h1, h2⟩ := q
      simp only [settleO] at e
      split at e
      · rename_i us e1
        cases e5 : datas us with
        | none => rw [e5] at e; cases e
        | some xs =>
          rw [e5] at e
          cases e
          have h3 := mapO_rps ih h2 e1
          rw [datas_eq e5] at h3
          exact .d (.lst (see _ h1) (dq_all h3))
      · cases e
    | di kvs =>
      obtain ⟨ks, h1, h2⟩ := q
      simp only [settleO] at e
      split at e
      · rename_i us e1
        cases e
        refine .dct (see _ h1) ?_
        have go : ∀ {ks : List (Key × V)} {kvs : List (Int × Va)} {us : List (Int × PyData)}, KRp K mg (mask H' ((al ++ be) ++ T)) (al ++ be) ks kvs → mapO (fun p : Int × Va => match settle L' L0.length k p.2 with
            | some (.d x) => some (p.1, x)
            | _ => none) kvs = some us → KDp M' ks us := by
          intro ks kvs us h
          induction h generalizing us with
          | nil => intro e; cases e; exact .nil
          | @cons p q ps qs h1 _ ih2 =>
            intro e
            unfold mapO at e
            split at e
            · rename_i b e2
              split at e
              · rename_i bs e3
                cases e
                split at e2
                · rename_i x e4
                  cases e2
                  exact .cons ⟨h1.1, rp_d (ih _ _ _ h1.2 e4)⟩ (ih2 e3)
                · cases e2
              · cases e
            · cases e
        exact go h2 e1
      · cases e
    | dt _ => cases e
    | ins _ _ => cases e
  intro k
  induction k with
  | zero =>
    have h0 : ∀ (v : V) (w u : Va), Rp K mg (mask H' ((al ++ be) ++ T)) (al ++ be) v w → settle L' L0.length 0 w = some u → Rp K mg M' al v u := by
      intro v w u q e
      cases q with
      | d q => cases e; exact .d (Dq.le m q)
      | loc _ => cases e
      | tup _ _ => cases e
      | dct _ _ => cases e
      | exc _ _ => cases e
      | scr _ => cases e
    exact ⟨h0, obj 0 h0⟩
  | succ k ih =>
    have h0 : ∀ (v : V) (w u : Va), Rp K mg (mask H' ((al ++ be) ++ T)) (al ++ be) v w → settle L' L0.length (k + 1) w = some u → Rp K mg M' al v u := by
      intro v w u q e
      cases q with
      | d q => cases e; exact .d (Dq.le m q)
      | @loc n a e1 =>
        rw [settle_loc] at e
        split at e
        · cases e
          exact .loc (by rw [List.getElem?_append_left (by omega)] at e1; exact e1)
        · split at e
          · rename_i o e2
            obtain ⟨b, e3, q3⟩ := r.cell n o e2
            rw [e1] at e3; cases e3
            exact ih.2 a o u (hM n a o (by omega) e1 e2) q3 e
          · cases e
      | tup e1 e2 =>
        simp only [settle] at e
        split at e
        · rename_i us e3
          cases e
          exact rp_mkTup (m _ _ e1) (mapO_rps ih.1 e2 e3)
        · cases e
      | dct e1 e2 => cases e; exact .dct (m _ _ e1) (KDp.le m e2)
      | exc e1 e2 => cases e; exact .exc (m _ _ e1) (ExR.le m e2)
      | scr e1 => cases e; exact .scr (SqL.le m e1)
    exact ⟨h0, obj (k + 1) h0⟩
theorem mapO_krp {κ κ' : Type} {G : κ → κ' → Prop} {M M' : Hp} {al al' : List Addr} {f : Va → Option Va} (hf : ∀ v w u, Rp K mg M al v w → f w = some u → Rp K mg M' al' v u) :
    ∀ {ks : List (κ × V)} {kvs us : List (κ' × Va)}, Paired (fun (p : κ × V) (q : κ' × Va) => G p.1 q.1 ∧ Rp K mg M al p.2 q.2) ks kvs → mapO (fun p : κ' × Va => (f p.2).map fun x => (p.1, x)) kvs = some us → Paired (fun (p : κ × V) (q : κ' × Va) => G p.1 q.1 ∧ Rp K mg M' al' p.2 q.2) ks us := by
  intro ks kvs us h
  induction h generalizing us with
  | nil => intro e; cases e; exact .nil
  | @cons p q ps qs h1 _ ih =>
    intro e
    unfold mapO at e
    split at e
    · rename_i b e2
      split at e
      · rename_i bs e3
        cases e
        cases e4 : f q.2 with
        | none => rw [e4] at e2; cases e2
        | some x =>
          rw [e4] at e2
          cases e2
          exact .cons ⟨h1.1, hf _ _ _ h1.2 e4⟩ (ih e3)
      · cases e
    · cases e
theorem settleOb_in {M M' : Hp} {al al' : List Addr} {L' : LH} {n0 k : Nat} (ih : ∀ (v : V) (w u : Va), Rp K mg M al v w → settle L' n0 k w = some u → Rp K mg M' al' v u) {a : Addr} : ∀ {o u : Ob}, ObR K mg M al H' a o → settleOb L' n0 k o = some u → ObR K mg M' al' H' a u
  | .lst ws, u, ⟨vs, h1, h2⟩, e => by
    simp only [settleOb] at e
    cases e1 : mapO (settle L' n0 k) ws with
    | none => rw [e1] at e; cases e
    | some us => rw [e1] at e; cases e; exact ⟨vs, h1, mapO_rps ih h2 e1⟩
  | .di kvs, u, ⟨ks, h1, h2⟩, e => by
    simp only [settleOb] at e
    cases e1 : mapO (fun p : Int × Va => (settle L' n0 k p.2).map fun x => (p.1, x)) kvs with
    | none => rw [e1] at e; cases e
    | some us => rw [e1] at e; cases e; exact ⟨ks, h1, mapO_krp (G := fun p q => p = Sum.inl q) ih h2 e1⟩
  | .dt kvs, u, ⟨ks, h1, h2⟩, e => by
    simp only [settleOb] at e
    cases e1 : mapO (fun p : List Int × Va => (settle L' n0 k p.2).map fun x => (p.1, x)) kvs with
    | none => rw [e1] at e; cases e
    | some us => rw [e1] at e; cases e; exact ⟨ks, h1, mapO_krp (G := fun (p : List Key) (q : List Int) => p = q.map Sum.inl) ih h2 e1⟩
theorem Stp.holdT {a : Addr} (s : Stp K mg H al T L H' al T L') (ha : H a = none) (ha' : H' a ≠ none) (na : a ∉ al) (low : ∀ (n : Nat) (o : Ob), L'[n]? = some (some o) → ∀ b, al[n]? = some b → ObR K mg (mask H' (al ++ (a :: T))) al H' b o) : Stp K mg H al T L H' al (a :: T) L' := by
  have r := s.rel
  refine ⟨⟨r.len, r.nd, fun b hb z => ?_, fun b h => ?_, fun n o e => ?_⟩, ⟨[], by simp, fun _ z => nomatch z⟩, ⟨[a], rfl, fun b hb => ?_⟩, s.frame, s.stay, s.lck, s.alv⟩
  · rcases List.mem_cons.mp z with z | z
    · exact na (z ▸ hb)
    · exact r.dis b hb z
  · rcases h with h | h
    · exact r.trk b (.inl h)
    · rcases List.mem_cons.mp h with z | z
      · rw [z]; exact ha'
      · exact r.trk b (.inr z)
  · obtain ⟨b, e1, _⟩ := r.cell n o e
    exact ⟨b, e1, low n o e b e1⟩
  · have : b = a := by simpa using hb
    rw [this]; exact ha
end
open Classical in
noncomputable def mkFnF (np nl : Nat) (body : SFn) : FnF := fun ws L => if ws.length = np then match body (ws.map some ++ List.replicate (nl - ws.length) none) L with
    | .rt (.loc n) L' => if L.length ≤ n then match L'[n]? with
        | some (some o) => match settleOb (L'.set n none) L.length 9 o with
          | some u => if Kept L L' then .ok u (L'.take L.length) else .stuck
          | none => .stuck
        | _ => .stuck
      else .stuck
    | .rf o L' => match settleOb L' L.length 9 o with
      | some u => if Kept L L' then .ok u (L'.take L.length) else .stuck
      | none => .stuck
    | .exc c f _ L' => if Kept L L' then .exc c f (L'.take L.length) else .stuck
    | _ => .stuck
  else .stuck
def NPF (np : Nat) (F : FnF) : Prop := ∀ ws L, ws.length ≠ np → F ws L = .stuck
theorem npf_mk {np nl : Nat} {body : SFn} : NPF np (mkFnF np nl body) := fun ws L h => by unfold mkFnF; rw [if_neg h]
def NPostF (K : PySem.W.Frag) (mg : Str → Option Value) (H : Hp) (al T : List Addr) (L : LH) (r : Res Ob) (Q : VK) (E : XK) : Prop := match r with
  | .ok o L' => ∀ a H' al', H a = none → Stp K mg H al T L H' al' (a :: T) L' → ObR K mg (mask H' (al' ++ (a :: T))) al' H' a o → Q (.ref a) H'
  | .exc c f L' => ∀ cls d H' al', Stp K mg H al T L H' al' T L' → ExR mg (mask H' (al' ++ T)) c f cls d → E cls d H'
  | .stuck => False
def spOfF (K : PySem.W.Frag) (mg : Str → Option Value) (np : Nat) (F : FnF) : Sp := fun vs H Q E => vs.length = np ∧ ∃ ws al T L, Rel K mg H al T L ∧ Rps K mg (mask H (al ++ T)) al vs ws ∧ NPostF K mg H al T L (F ws L) Q E
section
variable {P : Program} {w : World} {K : PySem.W.Frag} {mg : Str → Option Value} {base : Heap} {x qual : Str} {params : Arguments} {body : List Stmt} {scope : Scope} {dvs : List V} {kws : List (Str × V)} {f : Addr} {fd : FuncData}
theorem body_endF {H : Hp} {al T : List Addr} {L : LH} {X : Cx} {Q : VK} {E : XK} {np nl : Nat} {bf : SFn} {ws : List Va} (r0 : Rel X.K X.mg H al T L) (hl : ws.length = np)
    (h : NPostF X.K X.mg H al T L (mkFnF np nl bf ws L) Q E) : SPost X (WxE E) H al T L (bf (ws.map some ++ List.replicate (nl - ws.length) none) L) { nx := fun _ H' => Q .non H', rt := Q } := by
  unfold mkFnF at h
  rw [if_pos hl] at h
  revert h
  generalize bf (ws.map some ++ List.replicate (nl - ws.length) none) L = r
  intro h
  cases r with
  | nx _ _ => exact h.elim
  | bk _ _ => exact h.elim
  | ct _ _ => exact h.elim
  | stuck => exact h.elim
  | exc c f env' L' =>
    intro cls d σ' H' al' s _ q
    simp only at h
    split at h
    · rename_i hk
      obtain ⟨be, e, _⟩ := s.ext
      subst e
      exact h cls d H' al (exitS r0 s hk) (ExR.le (mask_more H' al be T) q)
    · exact h.elim
  | rf o L' =>
    intro a H' al' ha s q
    simp only at h
    split at h
    · rename_i u eu
      split at h
      · rename_i hk
        obtain ⟨be, e, _⟩ := s.ext
        subst e
        have n := r0.fresh ha
        -- the protected address stays so
        have sT : Stp X.K X.mg H al T L H' al (a :: T) (L'.take L.length) := by
          have rr := s.rel
          have fresh : ∀ b ∈ [a], H b = none := by
            intro b hb
            have : b = a := by simpa using hb
            rw [this]
            exact ha
          have base : Stp X.K X.mg H al T L H' al T (L'.take L.length) := exitS r0 (Stp.drop (te := [a]) fresh s) hk
          refine Stp.holdT base ha (rr.trk a (.inr List.mem_cons_self)) n.1 fun i ob ei b eb => ?_
          have hi : i < L.length := by
            have := (List.getElem?_eq_some_iff.mp ei).1
            rw [List.length_take] at this; omega
          rw [List.getElem?_take_of_lt hi] at ei
          obtain ⟨b', e2, q2⟩ := rr.cell i ob ei
          rw [List.getElem?_append_left (by rw [r0.len]; exact hi), eb] at e2
          cases e2
          obtain ⟨b3, e3, q3⟩ := base.rel.cell i ob (by rw [List.getElem?_take_of_lt hi]; exact ei)
          rw [eb] at e3; cases e3
          exact low_ob (be := be) (mask_more H' al be (a :: T)) q2 (ob_low q3)
        refine h a H' al ha sT (settleOb_in ?_ q eu)
        refine (settle_in r0.len s.rel (mask_more H' al be (a :: T)) ?_ 9).1
        intro n b o hn eb _ u hu
        refine mask_of (fun z => ?_) hu
        have hb : b ∈ be := by
          rw [List.getElem?_append_right (by have := r0.len; omega)] at eb
          exact List.mem_of_getElem? eb
        rcases List.mem_append.mp z with z | z
        · exact (List.nodup_append.mp s.rel.nd).2.2 b z b hb rfl
        · exact s.rel.dis b (List.mem_append_right _ hb) z
      · exact h.elim
    · exact h.elim
  | rt v L' =>
    match v with
    | .d _ => exact h.elim
    | .tup _ => exact h.elim
    | .dct _ => exact h.elim
    | .exc _ _ => exact h.elim
    | .scr _ => exact h.elim
    | .loc n =>
      intro v H' al' s q
      simp only at h
      split at h
      · rename_i hn
        split at h
        · rename_i o eo
          split at h
          · rename_i u eu
            split at h
            · rename_i hk
              obtain ⟨be, e, fr⟩ := s.ext
              subst e
              have rr := s.rel
              cases q with
              | @loc _ a ea =>
                obtain ⟨a', ea', qa⟩ := rr.cell n o eo
                rw [ea] at ea'; cases ea'
                have hb : a ∈ be := by
                  rw [List.getElem?_append_right (by have := r0.len; omega)] at ea
                  exact List.mem_of_getElem? ea
                have ha : H a = none := fr a hb
                have na := r0.fresh ha
                have base := exitS r0 s hk
                have mm : Le (mask H' ((al ++ be) ++ T)) (mask H' (al ++ (a :: T))) := fun b o e => by
                  obtain ⟨z, e⟩ := of_mask e
                  refine mask_of (fun y => z ?_) e
                  simp only [List.mem_append, List.mem_cons] at y ⊢
                  rcases y with y | y | y
                  · exact .inl (.inl y)
                  · exact .inl (.inr (y ▸ hb))
                  · exact .inr y
                have sT : Stp X.K X.mg H al T L H' al (a :: T) (L'.take L.length) := by
                  refine Stp.holdT base ha (rr.trk a (.inl (List.mem_append_right _ hb))) na.1 fun i ob ei b eb => ?_
                  have hi : i < L.length := by
                    have := (List.getElem?_eq_some_iff.mp ei).1
                    rw [List.length_take] at this; omega
                  obtain ⟨b3, e3, q3⟩ := base.rel.cell i ob ei
                  rw [List.getElem?_take_of_lt hi] at ei
                  obtain ⟨b', e2, q2⟩ := rr.cell i ob ei
                  rw [List.getElem?_append_left (by rw [r0.len]; exact hi), eb] at e2
                  cases e2
                  rw [eb] at e3; cases e3
                  exact low_ob (be := be) mm q2 (ob_low q3)
                refine h a H' al ha sT (settleOb_in ?_ qa eu)
                refine (settle_in r0.len (rr.lock (some n)) mm ?_ 9).1
                intro m b o2 hm eb eo2 u2 hu
                have hbb : b ∈ be := by
                  rw [List.getElem?_append_right (by have := r0.len; omega)] at eb
                  exact List.mem_of_getElem? eb
                have nb : b ≠ a := by
                  rintro rfl
                  obtain ⟨h1, h2⟩ := List.getElem?_eq_some_iff.mp ea
                  obtain ⟨h3, h4⟩ := List.getElem?_eq_some_iff.mp eb
                  have : m = n := (List.getElem_inj rr.nd).mp (h4.trans h2.symm)
                  subst this
                  have eo2 : (L'.set m none)[m]? = some (some o2) := eo2
                  rw [List.getElem?_set_self (List.getElem?_eq_some_iff.mp eo).1] at eo2
                  cases eo2
                refine mask_of (fun z => ?_) hu
                simp only [List.mem_append, List.mem_cons] at z
                rcases z with z | z | z
                · exact (List.nodup_append.mp rr.nd).2.2 b z b hbb rfl
                · exact nb z
                · exact rr.dis b (List.mem_append_right _ hbb) z
            · exact h.elim
          · exact h.elim
        · exact h.elim
      · exact h.elim
theorem fn_bodyF (F : FunD K x qual params body scope dvs kws f fd) {N ps : List Str} {k np nl : Nat} {bf : SFn} (S : FnScope N ps scope) (hnp : ps.length = np) (hnl : N.length = nl) (hle : np ≤ nl)
    (hb : ∀ (cdv : Value) (A : Around) (outer : List Env) (s : Shared) (H : Hp) (E : XK), A.guards = some [] → Room k (A.deeper (envOfC qual scope s.heap.objs.size f cdv)) → SB (cxOf (L2.CX P w) P w K mg base N qual scope f cdv A outer s H E) (WxE E) body bf) :
    FnG P w K mg base (L2.CX P w) (k + 1) f fd ps (spOfF K mg np (mkFnF np nl bf)) := by
  refine fnG_of F S (fun vs H Q E h => by rw [h.1, hnp]) (fun cdv A outer s H vs Q E hg hr h => ⟨_, hb cdv A outer s H E hg hr, ?_⟩)
  obtain ⟨hl, ws, al, T, L, r, rs, h⟩ := h
  have e := Paired.length rs
  subst hnl
  refine ⟨_, L, al, T, conf_start r rs (by omega), ?_⟩
  exact body_endF (X := cxOf (L2.CX P w) P w K mg base N qual scope f cdv A outer s H E) r (by omega) h
end
def HasF (P : Program) (w : World) (K : PySem.W.Frag) (mg : Str → Option Value) (base : Heap) (x : Str) (ps : List Str) (k : Nat) (F : FnF) : Prop :=
  ∃ f fd, mg x = some (.ref f) ∧ PySem.W.keepIn K (.ref f) = true ∧ Binds K fd ps [] ∧ NPF ps.length F ∧ FnG P w K mg base (L2.CX P w) k f fd ps (spOfF K mg ps.length F)
theorem hasF_of {P : Program} {w : World} {K : PySem.W.Frag} {mg : Str → Option Value} {base : Heap} {x : Str} {st : Stmt} {ps N : List Str} {k nl : Nat} {bf : SFn} (D : Def K mg x st) (hb : BindE x st ps) (S : FnScope N ps (defScope st)) (hnl : N.length = nl) (hle : ps.length ≤ nl)
    (h : ∀ (f : Addr) (cdv : Value) (A : Around) (outer : List Env) (s : Shared) (H : Hp) (E : XK), CtxF (cxOf (L2.CX P w) P w K mg base N x (defScope st) f cdv A outer s H E) (WxE E) k →
      SB (cxOf (L2.CX P w) P w K mg base N x (defScope st) f cdv A outer s H E) (WxE E) (defBody st) bf) : HasF P w K mg base x ps (k + 1) (mkFnF ps.length nl bf) := by
  obtain ⟨f, fd, hm, F⟩ := D
  refine ⟨f, fd, hm, F.kp, fun s us _ hl => by rw [List.append_nil] at hl ⊢; exact FunD.bindsA F hb s us hl, npf_mk, ?_⟩
  refine fn_bodyF F S rfl hnl hle fun cdv A outer s H E hg hr => h f cdv A outer s H E ⟨⟨hg, hr, takes_of rfl rfl rfl rfl, rfl, S.nd⟩, passes_of rfl⟩
section
variable {X : Cx} {Wx : WX} {k j : Nat} {ps : List Str} {F : FnF} {x : Str} {p pos : Pos} {e : Expr} {es : List Expr} {fs : En → LH → Res (List Va)}
def fCall (F : FnF) (fs : En → LH → Res (List Va)) : En → LH → Res Ob := fun env L => (fs env L).bind F
theorem w_callF (c : Ctx X Wx k) (h : HasF X.prog X.w X.K X.mg X.base x ps j F) (ha : SA X Wx (e :: es) fs) (hj : j ≤ k := by decide) (hg : Gl X x := by rfl) (hdb : (x == ("__debug__" : Str)) = false := by decide)
    (he : starEach (e :: es) X.env = (false, eval e X.env) :: starEach es X.env := by rfl) (hpl : (backTo pos (starEach es X.env)).any (·.1) = false := by rfl) : SF X Wx (.Call (.Name x p) (e :: es) [] pos) (fCall F fs) := by
  obtain ⟨f, fd, h1, h2, h3, h4, h5⟩ := h
  refine PE.imp (pe_callG (E := WE Wx) h5 c.gd (c.rm.mono hj) hg h1 h2 h3 (fun σ => passAt c.tk σ) ha hdb he hpl) ?_
  rintro σ H Q ⟨env, L, al, T, cf, q⟩
  refine fseq (R := RVs X) cf q fun vs H1 ws L1 al1 c1 s1 r1 q1 => ?_
  have hl : ws.length = ps.length := by
    by_cases z : ws.length = ps.length
    · exact z
    · rw [h4 ws L1 z] at q1; exact q1.elim
  refine ⟨by rw [Paired.length r1, hl], ws, al1, T, L1, c1.rel, r1, ?_⟩
  revert q1
  generalize F ws L1 = r
  intro q1
  cases r with
  | ok o L2 => exact fun a H' al' ha s q => q1 a H' al' ha s q
  | exc c f L2 => exact fun cls d H' al' s q => q1 cls d H' al' s q
  | stuck => exact q1
end
end L2.HW
namespace L2.HW
open PySem PySem.Spec PyProof.Rows
section
variable {X : Cx} {Wx : WX}
def fD0 : En → LH → Res Ob := fun _ L => .ok (.di []) L
theorem sf_d0 {pos : Pos} : SF X Wx (.Dict [] [] pos) fD0 := PE.imp pe_dnewK fun σ H Q ⟨env, L, al, T, c, q⟩ => fnew c.rel q fun p hp e m => ⟨[], e, .nil⟩
def dcompL (g : Va → En → LH → Res En) (t : En → LH → Res Bool) (fk fv : EF) : List Va → List (Int × Va) → En → LH → Res (List (Int × Va))
  | [], acc, _, L => .ok acc L
  | w :: ws, acc, env, L => match g w env L with
    | .ok env1 L1 => match t env1 L1 with
      | .ok b L2 => if b then match fk env1 L2 with
          | .ok (.d (.int k)) L3 => match fv env1 L3 with
            | .ok u L4 => if acc.length < sizeLine then dcompL g t fk fv ws (aput acc k u) env L4 else .stuck
            | _ => .stuck
          | _ => .stuck
        else dcompL g t fk fv ws acc env L2
      | _ => .stuck
    | _ => .stuck
def fDComp (s : Srcf) (g : Va → En → LH → Res En) (t : En → LH → Res Bool) (fk fv : EF) (vs : List Nat) : En → LH → Res Ob := fun env L => (s env L).bind fun p L1 => match dcompL g t fk fv p.1 [] (wipeE env vs) (lockL p.2 L1) with
  | .ok kvs L2 => .ok (.di kvs) (openL p.2 L1 L2)
  | _ => .stuck
theorem dc_at {wi : TI} {s : Srcf} {sl vs : List Nat} {g : Va → En → LH → Res En} {t : En → LH → Res Bool} {fk fv : EF} {σ : St} {H : Hp} {Q : VK} {gR : TG} {tR : TT} {kR vR : TE} {env : En} {L : LH} {al T : List Addr} (hv : ∀ j ∈ sl, j ∈ vs) (c : Conf X.K X.mg σ H env L al T)
    (hw : ∀ R, IPost X Wx σ H al T L (s env L) R → wi σ H R)
    (hgR : ∀ v σ H Q, (∃ w env L al T, Conf X.K X.mg σ H env L al T ∧ RV X (mask H (al ++ T)) al v w ∧ TPost X sl σ H al T L (g w env L) Q) → gR v σ H Q)
    (htR : ∀ σ H Q, Rdg X FX RB t σ H Q → tR σ H Q) (hkR : ∀ σ H Q, Rdg X FX (RV X) fk σ H Q → kR σ H Q) (hvR : ∀ σ H Q, Rdg X FX (RV X) fv σ H Q → vR σ H Q)
    (h : FPost X Wx σ H al T L (fDComp s g t fk fv vs env L) Q) : tDc wi gR tR kR vR vs σ H Q := by
  refine hw _ ?_
  unfold fDComp at h
  revert h
  generalize s env L = r
  intro h
  cases r with
  | stuck => exact h
  | exc c' f L1 => exact h
  | ok p L1 =>
    obtain ⟨ws, lk⟩ := p
    intro J H1 al1 s1 wk D hD
    have c1 := c.stp s1
    simp only [Res.bind_ok] at h
    have hl : al1.length = (lockL lk L1).length := (c1.rel.lock lk).len
    have c1l := c1.lock lk
    have s0 : Stp X.K X.mg H1 al1 T (lockL lk L1) (upd H1 D (.dK [])) al1 (D :: T) (lockL lk L1) := c1l.rel.allocT hD
    let W : Nat → Nat → Hp → Prop := fun i m H2 => m = ws.length - i ∧ i ≤ ws.length ∧ ∃ al2 L2 av aw, Stp X.K X.mg H1 al1 T (lockL lk L1) H2 al2 (D :: T) L2 ∧ H2 D = some (.dK av) ∧ KRp X.K X.mg (mask H2 (al2 ++ (D :: T))) al2 av aw ∧
      FPost X Wx σ H1 al1 T L1 (match dcompL g t fk fv (ws.drop i) aw (wipeE env vs) L2 with
        | .ok us L3 => .ok (.di us) (openL lk L1 L3)
        | _ => .stuck) Q
    have back : ∀ x, H1 x = none → H x = none := fun x z => s1.back z
    have h1 : FPost X Wx σ H1 al1 T L1 (match dcompL g t fk fv ws [] (wipeE env vs) (lockL lk L1) with
        | .ok us L3 => .ok (.di us) (openL lk L1 L3)
        | _ => .stuck) Q := by
      revert h
      generalize dcompL g t fk fv ws [] (wipeE env vs) (lockL lk L1) = r2
      intro h
      cases r2 with
      | ok us L3 => exact fun a H' al' ha t q => h a H' al' (back a ha) (Stp.trans c.rel.len s1 t) q
      | exc _ _ _ => exact h.elim
      | stuck => exact h.elim
    refine ⟨W, ⟨ws.length, by simp, Nat.zero_le _, al1, lockL lk L1, [], [], s0, upd_same, .nil, by simpa using h1⟩, ?_⟩
    rintro i m H2 ⟨rfl, hi, al2, L2, av, aw, s2, hav, raw, h2⟩
    obtain ⟨stop, item⟩ := wk H2 al2 (D :: T) L2 s2
    by_cases hlt : i < ws.length
    · have ew : ws[i]? = some ws[i] := List.getElem?_eq_getElem hlt
      obtain ⟨go, yl⟩ := item i _ ew
      refine .inr ⟨go, W (i + 1) (ws.length - (i + 1)), fun H' n => ⟨ws.length - (i + 1), by omega, n⟩, fun x H3 y => ?_⟩
      obtain ⟨s3, rx⟩ := yl x H3 y
      have s13 := Stp.trans hl s2 s3
      have c3 : Conf X.K X.mg (wipe σ vs) H3 (wipeE env vs) L2 al2 (D :: T) := (c1l.wiped vs).stp s13
      refine hgR _ _ _ _ ⟨ws[i], wipeE env vs, L2, al2, D :: T, c3, rx, ?_⟩
      rw [List.drop_eq_getElem_cons hlt] at h2
      unfold dcompL at h2
      revert h2
      generalize g ws[i] (wipeE env vs) L2 = r1
      intro h2
      cases r1 with
      | stuck => exact h2
      | exc _ _ _ => exact h2
      | ok env4 L4 =>
        intro σ4 H4 al4 s4 c4 ag
        have s14 := Stp.trans hl s13 s4
        refine ⟨wipe_agr ag hv, htR _ _ _ ⟨env4, L4, al4, D :: T, c4, ?_⟩⟩
        simp only at h2
        revert h2
        generalize t env4 L4 = r2
        intro h2
        cases r2 with
        | stuck => exact h2
        | exc _ _ _ => exact h2.elim
        | ok b L5 =>
          intro b' H5 al5 s5 e5
          obtain rfl : b' = b := e5
          have s15 := Stp.trans hl s14 s5
          have h5 : H5 D = some (.dK av) := s5.frame D _ (s4.frame D _ (s3.frame D _ hav (fun z => s2.rel.dis D z.mem List.mem_cons_self)) (fun z => s3.rel.dis D z.mem List.mem_cons_self)) (fun z => s4.rel.dis D z.mem List.mem_cons_self)
          have up : ∀ {H6 al6 L6}, Stp X.K X.mg H5 al5 (D :: T) L5 H6 al6 (D :: T) L6 → KRp X.K X.mg (mask H6 (al6 ++ (D :: T))) al6 av aw := fun {H6 al6 L6} s6 => by
            have l1 := Le.trans (Le.trans (Le.trans s3.le s4.le) s5.le) s6.le
            have a1 : ALe al2 al6 := fun k a e => s6.ale _ _ (s5.ale _ _ (s4.ale _ _ (s3.ale _ _ e)))
            exact Paired.map2 (fun _ _ q => ⟨q.1, Rp.le l1 a1 q.2⟩) raw
          simp only at h2
          cases b' with
          | false =>
            rw [if_neg Bool.false_ne_true] at h2 ⊢
            exact ⟨rfl, hlt, al5, L5, av, aw, s15, h5, up (Stp.refl s5.rel), h2⟩
          | true =>
            rw [if_pos rfl] at h2 ⊢
            have c5 := c4.stp s5
            refine hkR _ _ _ ⟨env4, L5, al5, D :: T, c5, ?_⟩
            revert h2
            generalize fk env4 L5 = r3
            intro h2
            cases r3 with
            | stuck => exact h2
            | exc _ _ _ => exact h2.elim
            | ok kw L6 =>
              intro yk H6 al6 s6 ryk
              have s16 := Stp.trans hl s15 s6
              have c6 := c5.stp s6
              match kw, h2, ryk with
              | .d (.int k), h2, ryk =>
                refine hvR _ _ _ ⟨env4, L6, al6, D :: T, c6, ?_⟩
                revert h2
                simp only
                generalize fv env4 L6 = r4
                intro h2
                cases r4 with
                | stuck => exact h2
                | exc _ _ _ => exact h2.elim
                | ok u L7 =>
                  intro yv H7 al7 s7 ryv
                  simp only at h2
                  by_cases hz : aw.length < sizeLine
                  · rw [if_pos hz] at h2
                    have s17 := Stp.trans hl s16 s7
                    have h7 : H7 D = some (.dK av) := s7.frame D _ (s6.frame D _ h5 (fun z => s5.rel.dis D z.mem List.mem_cons_self)) (fun z => s6.rel.dis D z.mem List.mem_cons_self)
                    have raw7 := up (Stp.trans s5.rel.len s6 s7)
                    have e : yk = kV (Sum.inl k) := dq_int (rp_d ryk)
                    refine ⟨av, Sum.inl k, e, h7, by rw [Paired.length raw7]; exact hz, rfl, hlt, al7, L7, putK av (Sum.inl k) yv, aput aw k u, Stp.updT hD s17, upd_same, ?_, h2⟩
                    rw [mask_in (by simp)]
                    exact put_pair (f := Sum.inl) (fun a b h => Sum.inl.inj h) raw7 k ryv
                  · rw [if_neg hz] at h2
                    exact h2.elim
              | .d .none, h2, _ => exact h2.elim
              | .d (.bool _), h2, _ => exact h2.elim
              | .d (.str _), h2, _ => exact h2.elim
              | .d (.list _), h2, _ => exact h2.elim
              | .d (.tuple _), h2, _ => exact h2.elim
              | .d (.dict _), h2, _ => exact h2.elim
              | .loc _, h2, _ => exact h2.elim
              | .tup _, h2, _ => exact h2.elim
              | .dct _, h2, _ => exact h2.elim
              | .exc _ _, h2, _ => exact h2.elim
              | .scr _, h2, _ => exact h2.elim
    · have e : i = ws.length := by omega
      subst e
      rw [List.drop_length] at h2
      unfold dcompL at h2
      exact .inl ⟨stop, h2 D H2 al2 hD (Stp.opened c1.rel s2) ⟨av, hav, raw⟩⟩
theorem dc_red {wi : TI} {s : Srcf} {sl vs : List Nat} {g : Va → En → LH → Res En} {t : En → LH → Res Bool} {fk fv : EF} {σ : St} {H : Hp} {Q : VK} {gR : TG} {tR : TT} {kR vR : TE} (hv : ∀ j ∈ sl, j ∈ vs)
    (hw : ∀ σ H R, (∃ env L al T, Conf X.K X.mg σ H env L al T ∧ IPost X Wx σ H al T L (s env L) R) → wi σ H R)
    (hgR : ∀ v σ H Q, (∃ w env L al T, Conf X.K X.mg σ H env L al T ∧ RV X (mask H (al ++ T)) al v w ∧ TPost X sl σ H al T L (g w env L) Q) → gR v σ H Q)
    (htR : ∀ σ H Q, Rdg X FX RB t σ H Q → tR σ H Q) (hkR : ∀ σ H Q, Rdg X FX (RV X) fk σ H Q → kR σ H Q) (hvR : ∀ σ H Q, Rdg X FX (RV X) fv σ H Q → vR σ H Q)
    (h : FRdg X Wx (fDComp s g t fk fv vs) σ H Q) : tDc wi gR tR kR vR vs σ H Q := by
  obtain ⟨env, L, al, T, c, h⟩ := h
  exact dc_at hv c (fun R q => hw _ _ _ ⟨env, L, al, T, c, q⟩) hgR htR hkR hvR h
theorem sf_dcomp {kx vx tg iter : Expr} {ifs : List Expr} {scope : Scope} {own : List (Str × Nat)} {pos : Pos} {s : Srcf} {sl : List Nat} {g : Va → En → LH → Res En} {t : En → LH → Res Bool} {fk fv : EF} (hc : X.calm = true) (hN : X.N.Nodup) (hi : SI X Wx tg iter s) (ok : BlkOk X.N X.env.scope scope own)
    (hv : ∀ j ∈ sl, j ∈ own.map (·.2)) (hg : BlkP X scope fun X => SG X sl tg g) (ht : BlkP X scope fun X => STs X FX ifs t) (hk : BlkP X scope fun X => SE X FX kx fk) (he : BlkP X scope fun X => SE X FX vx fv) (hs : ∀ x, foldedSetIterable iter X.env x = pure x := by intro _; rfl) :
    SF X Wx (.DictComp kx vx [⟨tg, iter, ifs, 0⟩] scope pos) (fDComp s g t fk fv (own.map (·.2))) :=
  PE.imp (pe_dc (g := gRd X sl g) (tt := Rdg X FX RB t) (tk := Rdg X FX (RV X) fk) (tv := Rdg X FX (RV X) fv) hc hN hi ok (fun s H C cl fp => hg s H C cl fp) (fun s H C cl fp => ht s H C cl fp) (fun s H C cl fp => hk s H C cl fp) (fun s H C cl fp => he s H C cl fp) hs)
    fun σ H Q h => dc_red hv (fun _ _ _ h => h) (fun _ _ _ _ h => h) (fun _ _ _ h => h) (fun _ _ _ h => h) (fun _ _ _ h => h) h
def keysOf (L : LH) (n : Nat) : Option (List Va) := match L[n]? with
  | some (some (.di kvs)) => some (kvs.map fun p => .d (.int p.1))
  | _ => none
def srcK (i : Nat) : Srcf := fun env L => match env[i]? with
  | some (some (.loc n)) => match keysOf L n with
    | some ks => .ok (ks, some n) L
    | none => .stuck
  | _ => .stuck
end
section
variable {K : PySem.W.Frag} {mg : Str → Option Value} {H : Hp} {al T : List Addr} {L : LH}
theorem rel_frz (r : Rel K mg H al T L) {n : Nat} {a : Addr} {u : HO} (ea : al[n]? = some a) : Rel K mg (upd H a u) al T (lockL (some n) L) := by
  have r1 := r.lock (some n)
  have ha : a ∈ al := List.mem_of_getElem? ea
  have m : mask (upd H a u) (al ++ T) = mask H (al ++ T) := mask_in (List.mem_append_left _ ha)
  refine ⟨r1.len, r1.nd, r1.dis, fun b h => ?_, fun k o e => ?_⟩
  · by_cases z : b = a
    · rw [z, upd_same]; simp
    · rw [upd_ne z]; exact r1.trk b h
  · obtain ⟨b, e1, q⟩ := r1.cell k o e
    rw [m]
    have : b ≠ a := by
      rintro rfl
      obtain ⟨h1, h2⟩ := List.getElem?_eq_some_iff.mp ea
      obtain ⟨h3, h4⟩ := List.getElem?_eq_some_iff.mp e1
      have : k = n := (List.getElem_inj r.nd).mp (h4.trans h2.symm)
      subst this
      unfold lockL at e
      by_cases hk : k < L.length
      · rw [List.getElem?_set_self hk] at e; cases e
      · rw [List.getElem?_eq_none (by simpa using hk)] at e; cases e
    exact ⟨b, e1, ObR.le (Le.refl _) (ALe.refl _) (fun _ z => by rw [upd_ne this]; exact z) q⟩
theorem not_alv_lock (r : Rel K mg H al T L) {n : Nat} {a : Addr} (ea : al[n]? = some a) : ¬ Alv al (lockL (some n) L) a := by
  rintro ⟨k, o, e1, e2⟩
  obtain ⟨h1, h2⟩ := List.getElem?_eq_some_iff.mp ea
  obtain ⟨h3, h4⟩ := List.getElem?_eq_some_iff.mp e1
  have : k = n := (List.getElem_inj r.nd).mp (h4.trans h2.symm)
  subst this
  unfold lockL at e2
  by_cases hk : k < L.length
  · rw [List.getElem?_set_self hk] at e2; cases e2
  · rw [List.getElem?_eq_none (by simpa using hk)] at e2; cases e2
theorem Stp.thaw {n : Nat} {a : Addr} {ob : Ob} {u z : HO} {H2 : Hp} {al2 T2 : List Addr} {L2 : LH} (r : Rel K mg H al T L) (ea : al[n]? = some a) (eo : L[n]? = some (some ob)) (hu : H a = some u)
    (s : Stp K mg (upd H a z) al T (lockL (some n) L) H2 al2 T2 L2) : Stp K mg H al T L (upd H2 a u) al2 T2 (openL (some n) L L2) := by
  have ha : a ∈ al := List.mem_of_getElem? ea
  obtain ⟨be, e1, f1⟩ := s.ext
  obtain ⟨te, e2, f2⟩ := s.text
  have ha2 : a ∈ al2 := by rw [e1]; exact List.mem_append_left _ ha
  have ea2 : al2[n]? = some a := s.ale _ _ ea
  have m2 : mask (upd H2 a u) (al2 ++ T2) = mask H2 (al2 ++ T2) := mask_in (List.mem_append_left _ ha2)
  have m1 : mask (upd H a z) (al ++ T) = mask H (al ++ T) := mask_in (List.mem_append_left _ ha)
  have hn : n < L.length := (List.getElem?_eq_some_iff.mp eo).1
  have hL2 : n < L2.length := by rw [← s.rel.len]; exact (List.getElem?_eq_some_iff.mp ea2).1
  have op : openL (some n) L L2 = L2.set n (some ob) := by simp [openL, eo]
  have old : ∀ b, upd H a z b = none → H b = none := fun b h => by
    by_cases q : b = a
    · rw [q, upd_same] at h; cases h
    · rw [upd_ne q] at h; exact h
  rw [op]
  refine ⟨⟨by simpa using s.rel.len, s.rel.nd, s.rel.dis, fun b h => ?_, fun k o e => ?_⟩, ⟨be, e1, fun b hb => old b (f1 b hb)⟩, ⟨te, e2, fun b hb => old b (f2 b hb)⟩, fun b o e nb => ?_, fun b e => ?_, fun k e => ?_, fun k o e => ?_⟩
  · by_cases q : b = a
    · rw [q, upd_same]; simp
    · rw [upd_ne q]; exact s.rel.trk b h
  · rw [m2]
    by_cases q : k = n
    · subst q
      rw [List.getElem?_set_self hL2] at e
      cases e
      obtain ⟨b, e3, qb⟩ := r.cell k ob eo
      rw [ea] at e3; cases e3
      refine ⟨a, ea2, ObR.le (by rw [← m1]; exact s.le) s.ale (fun o h => ?_) qb⟩
      rw [hu] at h; cases h; exact upd_same
    · rw [List.getElem?_set_ne (Ne.symm q)] at e
      obtain ⟨b, e3, qb⟩ := s.rel.cell k o e
      have : b ≠ a := by
        rintro rfl
        obtain ⟨h1, h2⟩ := List.getElem?_eq_some_iff.mp ea2
        obtain ⟨h3, h4⟩ := List.getElem?_eq_some_iff.mp e3
        exact q ((List.getElem_inj s.rel.nd).mp (h4.trans h2.symm))
      exact ⟨b, e3, ObR.le (Le.refl _) (ALe.refl _) (fun _ h => by rw [upd_ne this]; exact h) qb⟩
  · by_cases q : b = a
    · subst q
      rw [hu] at e; cases e; exact upd_same
    · rw [upd_ne q]
      refine s.frame b o (by rw [upd_ne q]; exact e) fun ⟨k, o', h1, h2⟩ => nb ?_
      unfold lockL at h2
      by_cases qk : k = n
      · subst qk
        rw [List.getElem?_set_self hn] at h2; cases h2
      · rw [List.getElem?_set_ne (Ne.symm qk)] at h2
        exact ⟨k, o', h1, h2⟩
  · by_cases q : b = a
    · rw [q, upd_same]; simp
    · rw [upd_ne q]; exact s.stay b (by rw [upd_ne q]; exact e)
  · by_cases q : k = n
    · subst q; rw [eo] at e; cases e
    · rw [List.getElem?_set_ne (Ne.symm q)]
      exact s.lck k (by unfold lockL; rw [List.getElem?_set_ne (Ne.symm q)]; exact e)
  · by_cases q : k = n
    · subst q; exact ⟨ob, List.getElem?_set_self hL2⟩
    · rw [List.getElem?_set_ne (Ne.symm q)]
      exact s.alv k o (by unfold lockL; rw [List.getElem?_set_ne (Ne.symm q)]; exact e)
end
section
variable {X : Cx} {Wx : WX}
theorem pget {α β : Type} {F : α → β → Prop} : ∀ {xs : List α} {ys : List β} {i : Nat} {y : β}, Paired F xs ys → ys[i]? = some y → ∃ x, xs[i]? = some x ∧ F x y
  | _, _, _, _, .nil, e => by simp at e
  | _, _, 0, _, .cons a _, e => by simp at e; subst e; exact ⟨_, rfl, a⟩
  | _, _, i + 1, _, .cons _ b, e => by simpa using pget (i := i) b (by simpa using e)
theorem sf_compK {i : Nat} {x : Str} {p : Pos} {elt tg : Expr} {ifs : List Expr} {scope : Scope} {own : List (Str × Nat)} {pos : Pos} {sl : List Nat} {g : Va → En → LH → Res En} {t : En → LH → Res Bool} {f : EF} (hc : X.calm = true) (hN : X.N.Nodup)
    (ok : BlkOk X.N X.env.scope scope own) (hv : ∀ j ∈ sl, j ∈ own.map (·.2)) (hg : BlkP X scope fun X => SG X sl tg g) (ht : BlkP X scope fun X => STs X FX ifs t) (he : BlkP X scope fun X => SE X FX elt f)
    (hNi : X.N[i]? = some x := by rfl) (hvis : Vis X.env.scope x := by first | exact Or.inl rfl | exact Or.inr (Or.inl rfl) | exact Or.inr (Or.inr rfl)) (hd : (x == ("__debug__" : Str)) = false := by decide) (hcd : (x == ("__classdict__" : Str)) = false := by decide)
    (hs : ∀ z, foldedSetIterable (.Name x p) X.env z = pure z := by intro _; rfl) :
    SF X Wx (.ListComp elt [⟨tg, .Name x p, ifs, 0⟩] scope pos) (fComp (srcK i) g t f (own.map (·.2))) := by
  refine PE.imp (pe_lock (pe_lc (g := gRd X sl g) (tt := Rdg X FX RB t) (te := Rdg X FX (RV X) f) hc hN (pi_keys (pe_var hNi hvis hd hcd)) ok (fun s H C cl fp => hg s H C cl fp) (fun s H C cl fp => ht s H C cl fp) (fun s H C cl fp => he s H C cl fp) hs)) ?_
  rintro σ H Q ⟨env, L, al, T, c, h⟩
  have h0 : ∃ n kvs, env[i]? = some (some (.loc n)) ∧ L[n]? = some (some (.di kvs)) ∧ FPost X Wx σ H al T L (if (kvs.map fun p => Va.d (.int p.1)).length ≤ sizeLine then match compL g t f (kvs.map fun p => Va.d (.int p.1)) (wipeE env (own.map (·.2))) (lockL (some n) L) with
      | .ok us L2 => .ok (.lst us) (openL (some n) L L2)
      | _ => .stuck
      else .stuck) Q := by
    unfold fComp srcK at h
    split at h
    · rename_i n e
      unfold keysOf at h
      cases e2 : L[n]? with
      | none => rw [e2] at h; exact h.elim
      | some o =>
        cases o with
        | none => rw [e2] at h; exact h.elim
        | some o =>
          cases o with
          | di kvs => rw [e2] at h; exact ⟨n, kvs, e, e2, h⟩
          | lst _ => rw [e2] at h; exact h.elim
          | dt _ => rw [e2] at h; exact h.elim
          | ins _ _ => rw [e2] at h; exact h.elim
    · exact h.elim
  clear h
  obtain ⟨n, kvs, e, eo, h⟩ := h0
  obtain ⟨v, sv, rv⟩ := c.slot i _ e
  cases rv with
  | @loc _ a ea =>
    obtain ⟨a', ea', ks, hH, kr⟩ := c.rel.cell n _ eo
    rw [ea] at ea'; cases ea'
    refine ⟨a, .dK ks, hH, trivial, fun od => ?_⟩
    have m : mask (upd H a (.frz od (.dK ks))) (al ++ T) = mask H (al ++ T) := mask_in (List.mem_append_left _ (List.mem_of_getElem? ea))
    have c' : Conf X.K X.mg σ (upd H a (.frz od (.dK ks))) env (lockL (some n) L) al T := ⟨rel_frz c.rel ea, c.len, fun j w z => by
      obtain ⟨v, h1, h2⟩ := c.slot j w z
      exact ⟨v, h1, by rw [m]; exact h2⟩⟩
    have lenk : ks.length = kvs.length := Paired.length kr
    refine lc_at (Wx := Wx) (s := fun _ L => .ok (kvs.map fun p => Va.d (.int p.1), none) L) hv c' (fun R q => ?_) (fun _ _ _ _ h => h) (fun _ _ _ h => h) (fun _ _ _ h => h) ?_
    · refine ⟨.ref a, sv, a, od, rfl, .inl ⟨ks, upd_same, q _ _ al (Stp.refl c'.rel) ?_⟩⟩
      intro H1 al1 T1 L1 s
      have h1 : H1 a = some (.frz od (.dK ks)) := s.frame a _ upd_same (not_alv_lock c.rel ea)
      refine ⟨⟨h1, by simp [lenk]⟩, fun j w ej => ?_⟩
      rw [List.getElem?_map] at ej
      cases ek : kvs[j]? with
      | none => rw [ek] at ej; cases ej
      | some pk =>
        rw [ek] at ej
        cases ej
        obtain ⟨⟨k, v⟩, hk, hk2, _⟩ := pget kr ek
        refine ⟨⟨h1, (List.getElem?_eq_some_iff.mp hk).1⟩, fun x H2 y => ?_⟩
        obtain ⟨rfl, k', v', h3, rfl⟩ := y
        rw [hk] at h3; cases h3
        have hk2 : k = Sum.inl pk.1 := hk2
        subst hk2
        exact ⟨Stp.refl s.rel, .d (.int _)⟩
    · unfold fComp
      simp only [Res.bind_ok, lockL_none, openL_none]
      revert h
      split
      · intro h
        revert h
        generalize compL g t f (kvs.map fun p => Va.d (.int p.1)) (wipeE env (own.map (·.2))) (lockL (some n) L) = r
        intro h
        cases r with
        | stuck => exact h
        | exc _ _ _ => exact h
        | ok us L2 =>
          intro a2 H2 al2 ha2 s q
          have ne : a2 ≠ a := by
            rintro rfl
            rw [upd_same] at ha2; cases ha2
          have st := Stp.thaw c.rel ea eo hH s
          refine ⟨s.frame a _ upd_same (not_alv_lock c.rel ea), h a2 _ al2 (by rw [upd_ne ne] at ha2; exact ha2) st ?_⟩
          obtain ⟨vs, q1, q2⟩ := q
          have ina : a ∈ al2 ++ (a2 :: T) := List.mem_append_left _ (List.mem_of_getElem? (s.ale _ _ ea))
          exact ⟨vs, by rw [upd_ne ne]; exact q1, by rw [mask_in ina]; exact q2⟩
      · intro h; exact h
end
section
variable {X : Cx} {Wx : WX}
theorem ps_setDcM {i : Nat} {y : Str} {py : Pos} {kx vx tg iter : Expr} {ifs : List Expr} {scope : Scope} {own : List (Str × Nat)} {pos spos : Pos} {wi : TI} {g : TG} {tt : TT} {tk tv : TE} (hc : X.calm = true) (hN : X.N.Nodup) (hy : X.N[i]? = some y) (hyl : X.env.scope.names.lookup y = some .local)
    (hsw : swapsWith (.DictComp kx vx [⟨tg, iter, ifs, 0⟩] scope pos) (some (.Name y py)) spos.line X.env = pure true) (hi : PI X tg iter wi) (ok : BlkOk X.N X.env.scope scope own)
    (hg : BlkP X scope fun X => PG X tg g) (ht : BlkP X scope fun X => PTs X ifs tt) (hk : BlkP X scope fun X => PE X kx tk) (he : BlkP X scope fun X => PE X vx tv) (hs : ∀ x, foldedSetIterable iter X.env x = pure x) :
    PS X (.Assign [.Name y py] (.DictComp kx vx [⟨tg, iter, ifs, 0⟩] scope pos) spos) (tAsg (tDc wi g tt tk tv (own.map (·.2))) (gName i)) := by
  refine ⟨fun pins s σ H D I h => ?_⟩
  rw [exec_Assign_Name_used _ _ _ _ hsw]
  refine wpAny_bind (wpAny_standAt (wpAny_bind ?_))
  have h : tDc wi g tt tk tv (own.map (·.2)) σ H (fun x H1 => gName i x σ H1 D.nx) := h
  show wpAny _ X.A (do let _ ← comprehension (.DictComp kx vx [⟨tg, iter, ifs, 0⟩] scope pos) scope X.env (firstIterPos [⟨tg, iter, ifs, 0⟩] pos) newDict false (eval iter X.env) (some (assign (.Name y py) X.env))) _ _ s
  refine wpAny_bind (thn (dc_core (Qf := fun _ t => SP X pins D .next t) hc hN I hi ok hg ht hk he hs h fun L C t m H' I' q hn f => ?_) fun _ t hq => wpAny_pure (wpAny_pure hq))
  show wpAny _ _ (assign (.Name y py) X.env (.ref L)) _ _ _
  obtain ⟨f0, f1, f2, f3, f4, f5⟩ := f
  refine wpAny_assign_Name (store_ok2 (v := V.ref L) I' hN hy (.inl hyl) rfl (fun t2 I2 ⟨a, sb, ha⟩ => ?_) (.inr hyl))
  have ne : C ≠ a := ha.elim (fun z => by rw [z]; exact f1) fun z e => f4 y a z e.symm
  exact ⟨m, hn.sameBut sb ne, fun t3 sb3 => ⟨_, H', I2.turned (t' := t2.toks) (fun b o hb e => (sb3.2 b hb).trans e) f0 f1 f3 f4 f5, q⟩⟩
theorem ss_newDcomp {i : Nat} {y : Str} {py : Pos} {kx vx tg iter : Expr} {ifs : List Expr} {scope : Scope} {own : List (Str × Nat)} {pos spos : Pos} {s : Srcf} {sl : List Nat} {g : Va → En → LH → Res En} {t : En → LH → Res Bool} {fk fv : EF} (hc : X.calm = true) (hN : X.N.Nodup) (hy : X.N[i]? = some y) (hyl : X.env.scope.names.lookup y = some .local)
    (hsw : swapsWith (.DictComp kx vx [⟨tg, iter, ifs, 0⟩] scope pos) (some (.Name y py)) spos.line X.env = pure true) (hi : SI X Wx tg iter s) (ok : BlkOk X.N X.env.scope scope own)
    (hv : ∀ j ∈ sl, j ∈ own.map (·.2)) (hg : BlkP X scope fun X => SG X sl tg g) (ht : BlkP X scope fun X => STs X FX ifs t) (hk : BlkP X scope fun X => SE X FX kx fk) (he : BlkP X scope fun X => SE X FX vx fv) (hs : ∀ x, foldedSetIterable iter X.env x = pure x := by intro _; rfl) :
    SS X Wx (.Assign [.Name y py] (.DictComp kx vx [⟨tg, iter, ifs, 0⟩] scope pos) spos) (sSet i (eNew (fDComp s g t fk fv (own.map (·.2))))) := by
  refine PS.imp (ps_setDcM (g := gRd X sl g) (tt := Rdg X FX RB t) (tk := Rdg X FX (RV X) fk) (tv := Rdg X FX (RV X) fv) hc hN hy hyl hsw hi ok hg ht hk he hs) ?_
  rintro D σ H ⟨env, L, al, T, c, h⟩
  refine dc_red hv (fun _ _ _ h => h) (fun _ _ _ _ h => h) (fun _ _ _ h => h) (fun _ _ _ h => h) (fun _ _ _ h => h) ⟨env, L, al, T, c, ?_⟩
  unfold sSet eNew at h
  revert h
  generalize fDComp s g t fk fv (own.map (·.2)) env L = r
  intro h
  cases r with
  | stuck => exact h
  | exc c' f' L1 => exact fun cls d H' al' s e => h cls d σ H' al' s (c.stp s) e
  | ok o L1 =>
    intro a H' al' ha st ob
    have st' := Stp.cell c.rel ha st ob
    refine h _ H' (al' ++ [a]) st' ((c.stp st').put (.loc ?_))
    rw [← st.rel.len, List.getElem?_append_right (Nat.le_refl _), Nat.sub_self]
    rfl
end
end L2.HW
namespace PySem
open Sem (wp)
end PySem
namespace L2.HW
open PySem PySem.Spec PyProof.Rows
structure Wd (K : PySem.W.Frag) (sq : Hp → Addr → List V → Prop) (obj : Heap → Addr → Array Value → Prop) (iter : Heap → Addr → Addr → Nat → Prop) (io : Addr → Obj) : Prop where
  rd : ∀ {X : Cx} {pins : List (Addr × Obj)} {σ : St} {H : Hp} {s : Shared} {a : Addr} {xs : List V}, X.K = K → Inv X pins σ H s → sq H a xs → ∃ its : List Value, Vals xs its ∧ obj s.heap a its.toArray
  inj : ∀ {X : Cx} {pins : List (Addr × Obj)} {σ : St} {H : Hp} {s : Shared} {a : Addr} {xs ys : List V}, X.K = K → Inv X pins σ H s → sq H a xs → sq H a ys → xs = ys
  dr : ∀ {prog : Program} {w : World} {A : Around} (_ : A.handled = none) (it a : Addr) (_ : a ≠ it) (items : Array Value), Draws prog w A it [it, a] items.size (fun i v => items[i]? = some v) (fun i h => iter h it a i ∧ obj h a items)
  ob : ∀ {h : Heap} {it a : Addr} {i : Nat}, iter h it a i → ∃ o, h.get? it = some o ∧ ∀ v, o.data ≠ .cell v
  at' : ∀ {h h' : Heap} {it a : Addr} {i : Nat}, iter h it a i → (∀ o, h.get? it = some o → h'.get? it = some o) → iter h' it a i
  lt : ∀ {h : Heap} {a : Addr} {items : Array Value}, obj h a items → a < h.objs.size
  bg : ∀ (a : Addr) (items : Array Value), Begins (.ref a) (io a) fun h => obj h a items
  st : ∀ {h : Heap} {it a : Addr}, h.get? it = some (io a) → iter h it a 0
theorem wd_list (K : PySem.W.Frag) : Wd K (fun H a xs => SqL K H a xs) (fun h a items => h.IsList a items) (fun h it a i => h.IsListIter it a i) (fun a => { cls := .type "list_iterator", data := .fields #[.ref a, .int 0 0] }) where
  rd := fun hK I h => by
    subst hK
    obtain ⟨its, rv, p, _⟩ := I.list h
    exact ⟨its, rv, p.isList⟩
  inj := fun hK I h k => by subst hK; exact I.list_inj h k
  dr := fun hh it a hne items => Draws.list hh it a hne items
  ob := fun ⟨o, ho, hc, hd⟩ => ⟨o, ho, fun v q => by rw [hd] at q; cases q⟩
  at' := fun x k => x.at fun o e => k o e
  lt := fun ⟨o, ho, _⟩ => Heap.lt_size ho
  bg := fun a items => begins_list a items
  st := fun e => ⟨_, e, rfl, rfl⟩
section
variable {K : PySem.W.Frag} {sq : Hp → Addr → List V → Prop} {obj : Heap → Addr → Array Value → Prop} {iter : Heap → Addr → Addr → Nat → Prop} {io : Addr → Obj}
def IteG (sq : Hp → Addr → List V → Prop) (k0 : Int) (a : Addr) : It :=
  ⟨fun i H => ∃ (xs : List V) (x : V), sq H a xs ∧ xs[i]? = some x, fun i H v H' => ∃ T x, v = .ref T ∧ H T = none ∧ H' = upd H T (.tup [.int (k0 + (i : Nat)), x]) ∧ ∀ xs, sq H a xs → xs[i]? = some x, fun i H => ∃ xs : List V, sq H a xs ∧ xs.length = i⟩
theorem turn_enumG {P : Program} {w : World} {elts : List Expr} {kk : Nat} {tpos : Pos} (W : Wd K sq obj iter io) (k0 : Int) (a e it : Addr) (hea : e ≠ a) (hia : a ≠ it) :
    Turn P w K (.Tuple elts kk tpos) (IteG sq k0 a) [e, it] e (fun i h => (∃ old, IsEnum h e it (k0 + ((i : Nat) : Int)) old) ∧ iter h it a i ∧ e ≠ it) where
  mem := by simp
  obj := fun i h st b hb => by
    obtain ⟨⟨old, he⟩, hi, _⟩ := st
    have e' : b = e ∨ b = it := by simpa using hb
    rcases e' with z | z
    · rw [z]; exact ⟨_, he, fun v q => nomatch q⟩
    · rw [z]; exact W.ob hi
  keep := fun i h h' st k => let ⟨⟨old, he⟩, hi, hne⟩ := st; ⟨⟨old, k e (by simp) _ he⟩, W.at' hi fun o q => k it (by simp) o q, hne⟩
  item := by
    intro X hP hw hK hc i pins s σ H E I hf st hg
    subst hP hw
    obtain ⟨⟨old, he⟩, hit, hne⟩ := st
    obtain ⟨xs, x, hq, hx⟩ := hg
    obtain ⟨its, rv, p⟩ := W.rd hK I hq
    obtain ⟨u, hu, ru⟩ := rv.get hx
    have hel : e < s.heap.objs.size := Heap.lt_size he
    have hil : it < s.heap.objs.size := by obtain ⟨_, q, _⟩ := W.ob hit; exact Heap.lt_size q
    have D := W.dr (prog := X.prog) (w := X.w) (A := X.A.in1) (show X.A.in1.handled = none from I.ok.hd hc) it a hia its.toArray
    have hef : e ∉ [it, a] := by simp [hne, hea]
    have hi : i < its.toArray.size := by
      have := (List.getElem?_eq_some_iff.mp hu).1
      simpa using this
    refine wpAny_pyNext_enum_itemC D he ⟨hit, p⟩ hi hne hef fun y h' tk hy ho hit' hT hsz hk => ?_
    have hy2 : u = y := by
      rw [show its.toArray[i]? = its[i]? by simp, hu] at hy
      exact Option.some.inj hy
    subst hy2
    refine ⟨_, rfl, wpAny_letOwnedTupleGo_enum (s := { s with heap := h', toks := tk + 1 }) ho fun h'' he' sb => ?_⟩
    have hT2 : h''.get? s.heap.objs.size = some { cls := .type "tuple", data := .seq #[.int (k0 + (i : Nat)) tk, u] } := (sb.2 _ (Nat.ne_of_gt hel)).trans hT
    have new : ObjOk X.prog X.w (upd H s.heap.objs.size (.tup [.int (k0 + (i : Nat)), x])) h'' s.heap.objs.size (.tup [.int (k0 + (i : Nat)), x]) :=
      ⟨by show 2 ≤ sizeLine; decide, [.int (k0 + (i : Nat)) tk, u], .cons ⟨_, rfl⟩ (.cons ru .nil), ⟨_, hT2, rfl, _, rfl⟩⟩
    have I1 : Inv X pins σ (upd H s.heap.objs.size (.tup [.int (k0 + (i : Nat)), x])) { s with heap := h'', toks := tk + 1 } :=
      I.turnedNew (ch := [e, it]) (fun b ob hb q => (sb.2 b (fun z => hb (by simp [z]))).trans (hk b ob (fun z => hb (by simp [z])) (fun z => hb (by simp [z])) q)) hf (Nat.le_refl _) new
    refine ⟨.ref s.heap.objs.size, _, I1, rfl, ⟨_, x, rfl, I.hok.fresh (Nat.le_refl _), rfl, fun ys hy => by rw [W.inj hK I hy hq]; exact hx⟩, ⟨⟨u, ?_⟩, W.at' hit'.1 fun o q => (sb.2 it (Ne.symm hne)).trans q, hne⟩, fun b hb => ?_⟩
    · have e1 : k0 + ((i + 1 : Nat) : Int) = k0 + (i : Int) + 1 := by omega
      rw [e1]; exact he'
    · have hb' : b < s.heap.objs.size := by
        have e' : b = e ∨ b = it := by simpa using hb
        rcases e' with z | z
        · rw [z]; exact hel
        · rw [z]; exact hil
      rw [upd_ne (Nat.ne_of_lt hb')]
      exact (hf b hb).1
  done := by
    intro X hP hw hK hc i pins s σ H E I hf st hg
    subst hP hw
    obtain ⟨⟨old, he⟩, hit, hne⟩ := st
    obtain ⟨xs, hq, hx⟩ := hg
    obtain ⟨its, rv, p⟩ := W.rd hK I hq
    obtain ⟨f0, f1, f2, f3, f4, f5⟩ := hf it (by simp)
    have hl := rv.length
    have D := W.dr (prog := X.prog) (w := X.w) (A := X.A.in1) (show X.A.in1.handled = none from I.ok.hd hc) it a hia its.toArray
    have hn : its.toArray.size = i := by simp; omega
    exact wpAny_pyNext_enum_endD D he (by rw [hn]; exact ⟨hit, p⟩) fun h' eb => ⟨rfl, I.turned (t' := s.toks) (fun b o hb q => eb b o hb q) f0 f1 f3 f4 f5⟩
  self := fun A i s Q E st h => let ⟨⟨_, he⟩, _⟩ := st; wpAny_pyIter_enum he h
def iEnumG2 (sq : Hp → Addr → List V → Prop) (ta : TA) : TI := fun σ H R => ta σ H fun vs H1 => ∃ a xs k, vs = [.ref a, .int k] ∧ -(2 ^ 63) ≤ k ∧ k < 2 ^ 63 ∧ sq H1 a xs ∧ R (IteG sq k a) H1
theorem pi_enumG2 {X : Cx} {e e2 : Expr} {ta : TA} {p pos tpos : Pos} {elts : List Expr} {kk : Nat} (W : Wd X.K sq obj iter io) (hg : Gl X "enumerate") (hm : X.mg "enumerate" = none) (ha : PA X [e, e2] ta)
    (hs : starEach [e, e2] X.env = (false, eval e X.env) :: starEach [e2] X.env := by rfl) (hpl : (backTo pos (starEach [e2] X.env)).any (·.1) = false := by rfl) :
    PI X (.Tuple elts kk tpos) (.Call (.Name "enumerate" p) [e, e2] [] pos) (iEnumG2 sq ta) := by
  refine ⟨fun pins s σ H R I h => ?_⟩
  refine Call_ (ld_blt I hg hm boot_enumerate (PyProof.Rows.callWith_type1 (thn (ha.run pos pins s σ H _ I h) fun us s1 ⟨vs, H1, I1, r1, q1⟩ => ?_) hs hpl))
  obtain ⟨a, xs, k, ex, k0, k1, hq, q⟩ := q1
  subst ex
  cases r1 with
  | cons r rr =>
    cases rr with
    | cons r' rr =>
      cases rr
      cases r
      obtain ⟨tk, rfl⟩ := r'
      obtain ⟨its, rv, p'⟩ := W.rd rfl I1 hq
      have hlt := W.lt p'
      refine enum_begins (W.bg a its.toArray) p' k0 k1 fun h' he hit hsz hk => wpAny_pyIter_enum he ?_
      have I2 : Inv X pins σ H1 { s1 with heap := h' } := I1.kept (t' := s1.toks) hk
      refine ⟨s1.heap.objs.size + 1, [s1.heap.objs.size + 1, s1.heap.objs.size], _, _, H1, rfl, I2, turn_enumG W k a (s1.heap.objs.size + 1) s1.heap.objs.size (Nat.ne_of_gt (Nat.lt_succ_of_lt hlt)) (Nat.ne_of_lt hlt), ⟨⟨.none, by simpa using he⟩, W.st hit, Nat.succ_ne_self _⟩, fun b hb => ?_, q⟩
      have e' : b = s1.heap.objs.size + 1 ∨ b = s1.heap.objs.size := by simpa using hb
      have hle : s1.heap.objs.size ≤ b := by
        rcases e' with z | z
        · rw [z]; exact Nat.le_add_right _ _
        · rw [z]; exact Nat.le_refl _
      exact I1.fpOk hle (I1.hok.fresh hle)
end

def enumV (k0 : Int) (ws : List Va) : List Va := ws.zipIdx.map fun p => mkTup [.d (.int (k0 + (p.2 : Nat))), p.1]
def srcE (k0 : Int) (fs : En → LH → Res (List Va)) : Srcf := fun env L => (fs env L).bind fun ws L1 => match ws with
  | [w] => match srcOf w L1 with
    | some p => .ok (enumV k0 p.1, p.2) L1
    | none => .stuck
  | _ => .stuck
theorem wlk_enum {K : PySem.W.Frag} {mg : Str → Option Value} {H : Hp} {al T : List Addr} {L : LH} {sq : Hp → Addr → List V → Prop} {k0 : Int} {a : Addr} {vs : List V} {ws : List Va}
    (hs : ∀ H1 al1 T1 L1, Stp K mg H al T L H1 al1 T1 L1 → sq H1 a vs) (r : Rps K mg (mask H (al ++ T)) al vs ws) : Wlk K mg H al T L (IteG sq k0 a) (enumV k0 ws) := by
  intro H1 al1 T1 L1 s
  have h1 := hs H1 al1 T1 L1 s
  have r1 := s.rps r
  refine ⟨⟨vs, h1, by rw [Paired.length r1]; simp [enumV]⟩, fun i w e => ?_⟩
  unfold enumV at e
  rw [List.getElem?_map] at e
  cases ei : ws[i]? with
  | none =>
    have : ws.zipIdx[i]? = none := by rw [List.getElem?_zipIdx, ei]; rfl
    rw [this] at e; cases e
  | some u =>
    have : ws.zipIdx[i]? = some (u, i) := by rw [List.getElem?_zipIdx, ei]; simp
    rw [this] at e
    cases e
    obtain ⟨v, e2, q⟩ := rps_get r1 ei
    refine ⟨⟨vs, v, h1, e2⟩, fun x H2 y => ?_⟩
    obtain ⟨p, x', rfl, hp, rfl, y⟩ := y
    have := y vs h1
    rw [e2] at this; cases this
    have st := s.rel.alloc (o := .tup [.int (k0 + (i : Nat)), v]) hp
    obtain ⟨n1, n2⟩ := s.rel.fresh hp
    refine ⟨st, rp_mkTup (mask_of (by simp [n1, n2]) upd_same) ?_⟩
    exact .cons (.d (.int _)) (.cons (st.rp q) .nil)
end L2.HW
namespace L2.HW
open PySem PySem.Spec PyProof.Rows
def ExcF (K : PySem.W.Frag) (mg : Str → Option Value) (x : Str) : Prop := ∃ C : Addr, mg x = some (.ref C) ∧ PySem.W.excIn K C He.veBase "ValueError.__new__" = true ∧ PySem.W.keepIn K (.ref C) = true ∧ PySem.W.subIn K (.ref C) (.type "BaseException") = some true ∧ PySem.W.typeIn K (.ref C) = some (.type "type")
section
variable {X : Cx} {Wx : WX} {k : Nat}
def sRaise (x : Str) : SFn := fun env L => .exc x none env L
theorem ss_raise {x m : Str} {j : Nat} {p p2 pos pos2 : Pos} (c : Ctx X Wx k) (F : ExcF X.K X.mg x) (hg : Gl X x := by rfl) (hdb : (x == ("__debug__" : Str)) = false := by decide) :
    SS X Wx (.Raise (some (.Call (.Name x p) [.Constant (.str m) j p2] [] pos)) none pos2) (sRaise x) := by
  obtain ⟨C, hm, h1, h2, h3, h4⟩ := F
  refine PS.imp (ps_raise c.cm c.tk (pmk_own PySem.F.excBase_ValueError h1 hm h2 (raises_own h3 h4) hg hdb)) ?_
  rintro D σ H ⟨env, L, al, T, cf, h⟩
  exact h (.ref C) none σ H al (Stp.refl cf.rel) cf ⟨C, hm, rfl, rfl⟩
def dsp : List (EF × EF) → En → LH → Res (List (Int × Va))
  | [], _, L => .ok [] L
  | (f, g) :: r, env, L => match f env L with
    | .ok (.d (.int k)) L1 => match g env L1 with
      | .ok v L2 => match dsp r env L2 with
        | .ok kvs L3 => .ok ((k, v) :: kvs) L3
        | _ => .stuck
      | _ => .stuck
    | _ => .stuck
def mergeA (acc : List (Int × Va)) : List (Int × Va) → List (Int × Va)
  | [] => acc
  | p :: r => mergeA (aput acc p.1 p.2) r
def fDisp (ps : List (EF × EF)) : En → LH → Res Ob := fun env L => match dsp ps env L with
  | .ok kvs L1 => if kvs.length ≤ 15 then .ok (.di (mergeA [] kvs)) L1 else .stuck
  | _ => .stuck
def DR (K : PySem.W.Frag) (mg : Str → Option Value) (M : Hp) (al : List Addr) : List (V × V) → List (Int × Va) → Prop := Paired fun p q => p.1 = .int q.1 ∧ Rp K mg M al p.2 q.2
theorem DR.le {K : PySem.W.Frag} {mg : Str → Option Value} {M M' : Hp} {al al' : List Addr} (h : Le M M') (ha : ALe al al') {a : List (V × V)} {b : List (Int × Va)} (r : DR K mg M al a b) : DR K mg M' al' a b :=
  Paired.map2 (fun _ _ q => ⟨q.1, Rp.le h ha q.2⟩) r
def sAugIx (op : Int → Int → Int) (f g e : EF) : SFn := fun env L => (f env L).then env fun w L1 => (g env L1).then env fun u L2 => match w, u with
  | .loc n, .d (.int k) => match L2[n]? with
    | some (some (.lst ws)) => if 0 ≤ k then match ws[k.toNat]? with
      | some (.d (.int a)) => (e env L2).then env fun v L3 => match v, L3[n]? with
        | .d (.int b), some (some (.lst ws3)) => if k.toNat < ws3.length then .nx env (L3.set n (some (.lst (ws3.set k.toNat (.d (.int (op a b))))))) else .stuck
        | _, _ => .stuck
      | _ => .stuck
      else .stuck
    | _ => .stuck
  | _, _ => .stuck
def isD : LH → Va → Bool := fun L w => match w with
  | .dct _ => true
  | .loc n => match L[n]? with
    | some (some (.di _)) => true
    | some (some (.dt _)) => true
    | _ => false
  | _ => false
def eGet1 (f g : EF) : EF := fun env L => (f env L).bind fun w L1 => if isD L1 w then (g env L1).bind fun u L2 => match w.dget L2 u with
  | some (some x) => .ok x L2
  | some none => .ok (.d .none) L2
  | none => .stuck
  else .stuck
def eGet2 (f g h : EF) : EF := fun env L => (f env L).bind fun w L1 => if isD L1 w then (g env L1).bind fun u L2 => (h env L2).bind fun z L3 => match w.dget L3 u with
  | some (some x) => .ok x L3
  | some none => .ok z L3
  | none => .stuck
  else .stuck
end
end L2.HW
namespace L2.HW
open PySem PySem.Spec PyProof.Rows
section
variable {X : Cx} {Wx : WX}
def itemsV (kvs : List (Int × Va)) : List Va := kvs.map fun p => mkTup [.d (.int p.1), p.2]
def srcIt (i : Nat) : Srcf := fun env L => match env[i]? with
  | some (some (.loc n)) => match L[n]? with
    | some (some (.di kvs)) => .ok (itemsV kvs, some n) L
    | _ => .stuck
  | _ => .stuck
end
end L2.HW
namespace L2.HW
open PySem PySem.Spec PyProof.Rows
section
variable {X : Cx} {Wx : WX}
def insP (q : Int × Int) : List (Int × Int) → List (Int × Int)
  | [] => [q]
  | a :: r => if q.1 < a.1 then q :: a :: r else a :: insP q r
def sortP : List (Int × Int) → List (Int × Int)
  | [] => []
  | q :: r => insP q (sortP r)
def intKvs : List (Int × Va) → Option (List (Int × Int))
  | [] => some []
  | (k, .d (.int v)) :: r => (intKvs r).map ((k, v) :: ·)
  | _ :: _ => none
@[simp] theorem intKvs_map (ks : List (Int × Int)) : intKvs (ks.map fun q => (q.1, Va.d (.int q.2))) = some ks := by
  induction ks with
  | nil => rfl
  | cons q r ih => simp only [List.map_cons, intKvs, ih]; rfl
def fSortIt (i : Nat) : En → LH → Res Ob := fun env L => match env[i]? with
  | some (some (.loc n)) => match L[n]? with
    | some (some (.di kvs)) => match intKvs kvs with
      | some ks => .ok (.lst (((sortP ks).map fun q => PyData.tuple [.int q.1, .int q.2]).map Va.d)) L
      | none => .stuck
    | _ => .stuck
  | _ => .stuck
end
end L2.HW
namespace L2.HW
open PySem PySem.Spec PyProof.Rows
section
variable {X : Cx} {Wx : WX} {k : Nat}
open Classical in
noncomputable def cMin1X : List Va → LH → Res Va := fun ws L => one ws L fun us => match vaInts us with
  | some ns => match minI ns with
    | some m => .ok (.d (.int m)) L
    | none => .stuck
  | none => match datas us with
    | some (x :: r) => if PySem.W.AlikeAll (x :: r) ∧ PyData.depthAll (x :: r) ≤ 60 then .ok (.d (PySem.W.minD x r)) L else .stuck
    | _ => .stuck
open Classical in
noncomputable def eMinDef (fs : En → LH → Res (List Va)) (g : EF) : EF := fun env L => (fs env L).bind fun ws L1 => (g env L1).bind fun z L2 => one ws L2 fun us => match datas us with
  | some [] => .ok z L2
  | some (x :: r) => if PySem.W.AlikeAll (x :: r) ∧ PyData.depthAll (x :: r) ≤ 60 then .ok (.d (PySem.W.minD x r)) L2 else .stuck
  | none => .stuck
end
end L2.HW
namespace L2.HW
open PySem PySem.Spec PyProof.Rows
instance (a b : Int) : Decidable (RgOk a b) := by unfold RgOk; infer_instance
def rngD (a : Int) (n : Nat) : List PyData := (List.range n).map fun i => .int (a + (i : Nat))
section
variable {X : Cx} {Wx : WX} {k : Nat}
def fLstR1 (f : EF) : En → LH → Res Ob := fun env L => (f env L).bind fun w L1 => match w with
  | .d (.int n) => if RgOk 0 n then .ok (.lst ((rngD 0 n.toNat).map Va.d)) L1 else .stuck
  | _ => .stuck
def fLstR2 (f g : EF) : En → LH → Res Ob := fun env L => (f env L).bind fun w L1 => (g env L1).bind fun u L2 => match w, u with
  | .d (.int a), .d (.int b) => if RgOk a b then .ok (.lst ((rngD a (b - a).toNat).map Va.d)) L2 else .stuck
  | _, _ => .stuck
def eTupR1 (f : EF) : EF := fun env L => (f env L).bind fun w L1 => match w with
  | .d (.int n) => if RgOk 0 n then .ok (.d (.tuple (rngD 0 n.toNat))) L1 else .stuck
  | _ => .stuck
def eTupR2 (f g : EF) : EF := fun env L => (f env L).bind fun w L1 => (g env L1).bind fun u L2 => match w, u with
  | .d (.int a), .d (.int b) => if RgOk a b then .ok (.d (.tuple (rngD a (b - a).toNat))) L2 else .stuck
  | _, _ => .stuck
variable {e : Expr} {fs : En → LH → Res (List Va)} {p pos : Pos}
end
end L2.HW
namespace L2.HW
open PySem PySem.Spec PyProof.Rows
def wKeep (K : PySem.W.Frag) (c : Value) (i : Nat) (ts : Addr → Value → Option Addr → TS) (D : Ends) : WX := fun cls d σ H =>
  PySem.W.exmOne K cls c = some true ∧ ∃ C : Addr, cls = .ref C ∧ ∀ a : Addr, H a = none →
    ts a cls d { nx := fun σ' H' => H' a = none → D.nx (σ'.set i none) (upd H' a (exk a C d)), rt := fun _ _ => False, bk := fun _ _ => False, ct := fun _ _ => False } (σ.set i (some (.ref a))) H
theorem inv_note {X : Cx} {pins : List (Addr × Obj)} {σ : St} {H : Hp} {s : Shared} {a C : Addr} {d : Option Addr} {oe : Obj} {vs : Array Value} (I : Inv X ((a, oe) :: pins) σ H s) (hex : X.ex = []) (h0 : X.s_0.heap.get? a = none)
    (hc : oe.cls = .ref C) (hd : oe.dict = d) (hv : oe.data = .fields vs) (n0 : ∀ p ∈ X.pn ++ pins, p.1 ≠ a) : Inv X pins σ (upd H a (exk a C d)) s := by
  obtain ⟨ga, na, nl, nf, nv⟩ := I.pin (a, oe) (by simp)
  have ne : ∀ {b : Addr} {o : HO}, H b = some o → b ≠ a := fun e z => by rw [z, na] at e; cases e
  have off : ∀ {b : Addr}, b ≠ a → upd H a (exk a C d) b = H b := fun z => upd_ne z
  refine ⟨I.ok, I.os, I.bare, ⟨I.base.keep, I.base.slot, fun b o e n x => ?_, I.base.there, fun b xs e => ?_, fun b o u e => ?_, fun b ps e => ?_⟩, I.loc, I.cell, ?_, fun x c e => ?_, fun p hp => ?_, fun b o e => ?_, I.len⟩
  · have : b ≠ a := fun z => by rw [z, h0] at e; cases e
    rw [off this]; exact I.base.free b o e n x
  · have e1 := I.base.tups b xs e
    rw [off (ne e1)]; exact e1
  · have e1 := I.base.frzs b o u e
    rw [off (ne e1)]; exact e1
  · obtain ⟨more, e1⟩ := I.base.tbls b ps e
    exact ⟨more, by rw [off (ne e1)]; exact e1⟩
  · rw [off fun z => nl z.symm]; exact I.free
  · have : c ≠ a := fun z => by
      obtain ⟨v, o, k1, k2⟩ := I.cell x c e
      rw [z, ga] at k1
      cases k1
      exact nv v (by simp_all)
    rw [off this]; exact I.freeC x c e
  · obtain ⟨k1, k2, k3, k4, k5⟩ := I.pin p (by
      rcases List.mem_append.mp hp with h | h
      · exact List.mem_append_left _ h
      · exact List.mem_append_right _ (List.mem_cons_of_mem _ h))
    exact ⟨k1, by rw [off (n0 p hp)]; exact k2, k3, k4, k5⟩
  · by_cases z : b = a
    · subst z
      rw [upd_same] at e
      cases e
      exact ⟨⟨oe, vs, ga, hc, hd, hv⟩, ⟨oe, ga⟩, fun h1 h2 ⟨o1, v1, q1, q2, q3, q4⟩ k => ⟨o1, v1, k o1 q1, q2, q3, q4⟩⟩
    · rw [off z] at e
      exact (I.hok b o e).stay (fun _ _ _ q => q) (fun c q => by rw [off (ne q)]; exact q) fun c xs q => by rw [off (ne q)]; exact q
theorem ps_try_keep {X : Cx} {x n : Str} {c : Value} {i : Nat} {body suite : List Stmt} {b0 : Stmt} {np pos pos' : Pos} {tb : WX → TS} {ts : Addr → Value → Option Addr → TS}
    (hs : X.stack = X.env :: X.outer) (hf : X.env.frame = some X.env.locals) (hex : X.ex = []) (hN : X.N.Nodup) (hi : X.N[i]? = some n) (hln : X.env.kindOf n = some .local) (hc : Names X x c)
    (hb : ∀ (W : WX) (pn : List (Addr × Obj)) (xe : Value → Shared → Prop), Takes (X.tr pn xe) W → PassesOwn (model X.prog X.w) X.A X.env xe → PSs (X.tr pn xe) body (tb W))
    (hsu : ∀ (a : Addr) (oe : Obj) (cls : Value) (d : Option Addr) (pn : List (Addr × Obj)), Zc cls d oe → (∃ vs, oe.data = .fields vs) → PSs (X.suite a ((a, oe) :: pn)) (b0 :: suite) (ts a cls d)) :
    PS X (.Try body [.ExceptHandler (some (.Name x np)) (some n) (b0 :: suite) pos'] [] [] pos) fun D σ H => tb (wKeep X.K c i ts D) D σ H := by
  refine ⟨fun pins s σ H D I h => ?_⟩
  have ok := I.ok
  have hfr : X.A.frames = some (X.env :: X.outer) := by rw [ok.frames, hs]
  refine wpAny_Try_except ?_
  have body_ := (hb (wKeep X.K c i ts D) (X.pn ++ pins) (fun e s1 => wpAny (model X.prog X.w) X.A (noteFrame e X.env) (fun _ s2 => wpAny (model X.prog X.w) X.A (setFlight e none) (fun _ s3 => wpAny (model X.prog X.w) X.A (handleBy e X.env [.ExceptHandler (some (.Name x np)) (some n) (b0 :: suite) pos']) (SP X pins D) X.xe s3) X.xe s2) X.xe s1) ?_ PassesOwn.looking).run [] s σ H D (I.toTry _) h
  · refine wpAny_mono body_ (fun f s1 hsp => ?_) fun e s1 he => he
    cases f with
    | next => obtain ⟨σ1, H1, J, q⟩ := hsp; exact wpAny_execs_nil ⟨σ1, H1, J.ofTry ok, q⟩
    | brk => obtain ⟨σ1, H1, J, q⟩ := hsp; exact ⟨σ1, H1, J.ofTry ok, q⟩
    | cont => obtain ⟨σ1, H1, J, q⟩ := hsp; exact ⟨σ1, H1, J.ofTry ok, q⟩
    | ret u => obtain ⟨v, σ1, H1, J, r, q⟩ := hsp; exact ⟨v, σ1, H1, J.ofTry ok, r, q⟩
  · rintro u s1 ⟨a, B, sI, pins1, σ1, H1, cls, d, rfl, J0, nb, up, sky, na, os, ag, hm, C, hC, hyes⟩
    have J := J0.ofTry ok
    have sky1 : Sky B (X.env :: X.outer) a (Zc cls d) X.env.locals s1.heap := by rw [← hs]; exact sky
    refine Sky.land Zc.steady hfr hf sky1 fun h3 fl3 up3 => ?_
    have J3 : Inv X pins σ1 H1 { s1 with heap := h3 } := J.landed nb fl3.1 (up.trans up3) os ag
    obtain ⟨oe3, vs3, he3, hz3, hd3⟩ := fl3.there
    have nfr : a ∉ frs (X.env :: X.outer) := fun hm2 => by
      obtain ⟨_, o2, e2, n2⟩ := fl3.2.2.1.mem hm2
      rw [he3] at e2
      cases e2
      exact n2 _ hd3
    have nL : a ≠ X.env.locals := fun z => nfr (List.mem_filterMap.mpr ⟨X.env, List.mem_cons_self, by rw [hf, z]⟩)
    have nF : a ∉ X.fs := fun hm2 => by
      obtain ⟨e, he, q⟩ := List.mem_filterMap.mp hm2
      exact nfr (List.mem_filterMap.mpr ⟨e, List.mem_cons_of_mem _ he, q⟩)
    have nI : sI.heap.get? a = none := by
      cases e : sI.heap.get? a with
      | none => rfl
      | some o =>
        have := nb a o e (by show a ∉ frs X.stack; rw [hs]; exact nfr)
        rw [fl3.2.1] at this
        cases this
    have n0 : X.s_0.heap.get? a = none := by
      cases e : X.s_0.heap.get? a with
      | none => rfl
      | some o =>
        obtain ⟨o2, e2⟩ := J.base.there a o e (by rw [hex]; simp)
        rw [nI] at e2; cases e2
    have npin : ∀ p ∈ X.pn ++ pins, p.1 ≠ a := fun p hp z => by
      have := (J.pin p hp).1
      rw [z, nI] at this; cases this
    have S3 := J3.suite he3 hd3 na nL nF
    refine wpAny_handleBy_cons (codeAny_handlers_test ?_) (by intro q; cases q)
    have LM := PySem.W.exm_one (M := model X.prog X.w) (c := c) J3.kIn (fun A Q E s k q => wpAny_typeOf_ref (k a oe3 he3) (by rw [hz3.1]; exact q)) hm
    have test : ∀ {Q : Value → Shared → Prop} {E : Value → Shared → Prop}, Q c _ → wpAny (model X.prog X.w) (X.A.mark (some (.ref a))) (eval (.Name x np) X.env) Q E _ := fun {Q E} q => by
      obtain ⟨hg, hdbg, hm3 | ⟨hm3, hv, hnn⟩⟩ := hc
      · exact ld_glob S3 hg hm3 q hdbg
      · exact ld_blt S3 hg hm3 hv q hnn hdbg
    refine test (PySem.W.Looks.here LM ?_)
    refine codeAny_handlers_suite_as (HandSPX.lands_againZ fl3 fun h4 fl4 up4 => ?_)
    have J4 : Inv X pins σ1 H1 { s1 with heap := h4 } := J.landed nb fl4.1 ((up.trans up3).trans up4) os ag
    obtain ⟨oe4, vs4, he4, hz4, hd4⟩ := fl4.there
    have S4 := J4.suite he4 hd4 na nL nF
    refine store_ok (X := X.suite a ((a, oe4) :: (X.pn ++ pins))) (σ := σ1) (H := H1) (i := i) (x := n) (v := V.ref a) S4 hN hi (.inl hln) rfl (fun s5 S5 => ?_) (.inr hln)
    refine wpAny_mono ((hsu a oe4 cls d (X.pn ++ pins) hz4 ⟨vs4, hd4⟩).run [] s5 _ H1 _ S5 (hyes a na)) (fun f s6 hsp => ?_) (fun _ _ z => z.elim)
    cases f with
    | next =>
      obtain ⟨σ6, H6, S6, q6⟩ := hsp
      have P6 : Inv X ((a, oe4) :: pins) σ6 H6 s6 := ⟨ok, S6.os, S6.bare, S6.base, S6.loc, S6.cell, S6.free, S6.freeC, fun p hp => S6.pin p (by
        have : p ∈ (a, oe4) :: (X.pn ++ pins) := by
          rcases List.mem_append.mp hp with h | h
          · exact List.mem_cons_of_mem _ (List.mem_append_left _ h)
          · rcases List.mem_cons.mp h with rfl | h
            · exact List.mem_cons_self
            · exact List.mem_cons_of_mem _ (List.mem_append_right _ h)
        exact List.mem_append_left _ this), S6.hok, S6.len⟩
      refine gone_ok P6 hN hi hln fun s7 J7 => ⟨σ6.set i none, upd H6 a (exk a C d), inv_note J7 hex n0 (by rw [hz4.1, hC]) hz4.2 hd4 npin, q6 (J7.pin (a, oe4) (by simp)).2.1⟩
    | brk => obtain ⟨_, _, _, q⟩ := hsp; exact q.elim
    | cont => obtain ⟨_, _, _, q⟩ := hsp; exact q.elim
    | ret u => obtain ⟨_, _, _, _, _, q⟩ := hsp; exact q.elim
end L2.HW
namespace L2.HW
open PySem PySem.Spec PyProof.Rows
def ten : List Str := ["NoWeb", "NoMoment", "NoNumber", "NoRoad", "NoCut", "NoShape", "NotTree", "NotRoad", "NoText", "Unlike"]
def hasteS : Str := "HasteError"
structure KX (K : PySem.W.Frag) (C : Addr) : Prop where
  cl : (PySem.W.clsIn K C).isSome = true
  ga : PySem.W.findIn K (.ref C) "__getattribute__" = some (some (.builtin "BaseException.__getattribute__"))
  gt : PySem.W.findIn K (.ref C) "__getattr__" = some none
  sb : PySem.W.subIn K (.ref C) (.type "BaseException") = some true
  cc : PySem.W.findIn K (.ref C) "__class__" = some (some (.builtin "object.__class__"))
  sp : PySem.W.specialIn K (.builtin "object.__class__") "__get__" = some (some (.builtin "getset_descriptor.__get__"))
  tk : PySem.W.takesIn K (.builtin "object.__class__") = some true
  mo : PySem.W.mroIn K C (.type "object") = some true
def kxB (K : PySem.W.Frag) (C : Addr) : Bool :=
  (PySem.W.clsIn K C).isSome && (decide (PySem.W.findIn K (.ref C) "__getattribute__" = some (some (.builtin "BaseException.__getattribute__"))) && (decide (PySem.W.findIn K (.ref C) "__getattr__" = some none) &&
  (decide (PySem.W.subIn K (.ref C) (.type "BaseException") = some true) && (decide (PySem.W.findIn K (.ref C) "__class__" = some (some (.builtin "object.__class__"))) && (decide (PySem.W.specialIn K (.builtin "object.__class__") "__get__" = some (some (.builtin "getset_descriptor.__get__"))) &&
  (decide (PySem.W.takesIn K (.builtin "object.__class__") = some true) && decide (PySem.W.mroIn K C (.type "object") = some true)))))))
theorem kxB_ok {K : PySem.W.Frag} {C : Addr} (h : kxB K C = true) : KX K C := by
  unfold kxB at h
  simp only [Bool.and_eq_true, decide_eq_true_eq] at h
  obtain ⟨h1, h2, h3, h4, h5, h6, h7, h8⟩ := h
  exact ⟨h1, h2, h3, h4, h5, h6, h7, h8⟩
def isErr (x y : Str) : Bool := decide (x = y) || decide (y = hasteS)
structure ExcAll (K : PySem.W.Frag) (mg : Str → Option Value) : Prop where
  at_ : ∀ x ∈ hasteS :: ten, ∃ C : Addr, mg x = some (.ref C)
  kx : ∀ x ∈ ten, ∀ C, mg x = some (.ref C) → KX K C
  ko : ∀ x ∈ ten, ∀ y ∈ hasteS :: ten, ∀ C D, mg x = some (.ref C) → mg y = some (.ref D) → PySem.W.kitOne K (.ref C) (.ref D) = some (isErr x y)
  kv : ∀ x ∈ ten, ∀ C, mg x = some (.ref C) → PySem.W.kitOne K (.ref C) (.type "ValueError") = some true
  kn : ∀ y ∈ hasteS :: ten, ∀ D, mg y = some (.ref D) → PySem.W.kitOne K (.type "NoneType") (.ref D) = some false
  nv : PySem.W.kitOne K (.type "NoneType") (.type "ValueError") = some false
  em : ∀ x ∈ ten, ∀ C D, mg x = some (.ref C) → mg hasteS = some (.ref D) → PySem.W.exmOne K (.ref C) (.ref D) = some true
def excAllB (K : PySem.W.Frag) : Bool :=
  (hasteS :: ten).all (fun x => He.Fa.ok K (.glo x)) && (ten.all (fun x => kxB K (He.ga K x) && ((hasteS :: ten).all (fun y => decide (PySem.W.kitOne K (.ref (He.ga K x)) (.ref (He.ga K y)) = some (isErr x y))) &&
    (decide (PySem.W.kitOne K (.ref (He.ga K x)) (.type "ValueError") = some true) && decide (PySem.W.exmOne K (.ref (He.ga K x)) (.ref (He.ga K hasteS)) = some true)))) &&
  ((hasteS :: ten).all (fun y => decide (PySem.W.kitOne K (.type "NoneType") (.ref (He.ga K y)) = some false)) && decide (PySem.W.kitOne K (.type "NoneType") (.type "ValueError") = some false)))
theorem excAll_of {K : PySem.W.Frag} {mg : Str → Option Value} {h : Heap} (X : K.In h) (G : h.Ns mainGlobals mg) (e : excAllB K = true) : ExcAll K mg := by
  unfold excAllB at e
  simp only [Bool.and_eq_true, List.all_eq_true, decide_eq_true_eq] at e
  obtain ⟨e1, e2, e3, e4⟩ := e
  have g : ∀ x ∈ hasteS :: ten, mg x = some (.ref (He.ga K x)) := fun x hx => He.glo_ok X G (e1 x hx)
  have gt : ∀ x ∈ ten, mg x = some (.ref (He.ga K x)) := fun x hx => g x (List.mem_cons_of_mem _ hx)
  have u : ∀ {x : Str} {C D : Addr}, mg x = some (.ref C) → mg x = some (.ref D) → C = D := fun a b => by rw [a] at b; cases b; rfl
  refine ⟨fun x hx => ⟨_, g x hx⟩, fun x hx C hC => ?_, fun x hx y hy C D hC hD => ?_, fun x hx C hC => ?_, fun y hy D hD => ?_, e4, fun x hx C D hC hD => ?_⟩
  · rw [u hC (gt x hx)]; exact kxB_ok (e2 x hx).1
  · rw [u hC (gt x hx), u hD (g y hy)]; exact (e2 x hx).2.1 y hy
  · rw [u hC (gt x hx)]; exact (e2 x hx).2.2.1
  · rw [u hD (g y hy)]; exact e3 y hy
  · rw [u hC (gt x hx), u hD (g hasteS List.mem_cons_self)]; exact (e2 x hx).2.2.2
def rIsX (K : PySem.W.Frag) : List V → Hp → VK → Prop := fun xs H Q => ∃ (x c : V) (u : Value) (b : Bool), xs = [x, c] ∧ ClsV c u ∧
  ((∃ t, TyX K H x t ∧ PySem.W.kitOne K t u = some b) ∨ ∃ (a C : Addr) (d : Option Addr), x = .ref a ∧ H a = some (exk a C d) ∧ KX K C ∧ (∀ dd, d = some dd → ∃ fs, H dd = some (.xd fs)) ∧ PySem.W.kitOne K (.ref C) u = some b) ∧ Q (.bl b) H
theorem call_isX {X : Cx} : CallR X (.builtin "isinstance") (rIsX X.K) := by
  intro pins s σ H xs us Q I r h
  obtain ⟨x, c, u, b, rfl, k, hx, q⟩ := h
  rcases hx with ⟨t, ty, e⟩ | ⟨a, C, d, rfl, ha, kx, hd, e⟩
  · exact call_isi pins s σ H _ us Q I r ⟨x, c, t, u, b, rfl, k, ty, e, q⟩
  · obtain ⟨u1, u2, rfl, r1, r2⟩ := vals2 r
    have e2 := ClsV.eq k r2
    subst e2
    cases r1
    obtain ⟨⟨oe, vs, g1, g2, g3, g4⟩, _⟩ := I.hok a _ ha
    have at_ : ∃ od, PySem.W.InstAt s.heap a oe C od := by
      cases d with
      | none => exact ⟨none, g1, g2, by unfold PySem.W.notCls; rw [g4], by rw [g3]; trivial⟩
      | some dd =>
        obtain ⟨fs, hf⟩ := hd dd rfl
        obtain ⟨mA, ⟨o, es, ep, k1, _⟩, _⟩ := I.hok dd _ hf
        exact ⟨some o, g1, g2, by unfold PySem.W.notCls; rw [g4], by rw [g3]; exact k1⟩
    obtain ⟨od, at_⟩ := at_
    have Z := PySem.W.kitx_exc (x := a) (ox := oe) (od := od) kx.cl kx.ga kx.gt kx.sb kx.cc kx.sp kx.tk kx.mo
    exact PySem.W.kia_one Z I.kIn at_ e (by intro z; cases z) fun tk => ⟨.bl b, H, I.tok tk, rfl, q⟩
def eIsE (x : Str) (f : EF) : EF := fun env L => (f env L).bind fun w L1 => match w with
  | .exc c _ => if c ∈ ten then .ok (.d (.bool (isErr c x || decide (x = "ValueError")))) L1 else .stuck
  | .d .none => .ok (.d (.bool false)) L1
  | _ => .stuck
section
variable {X : Cx} {Wx : WX} {k : Nat}
theorem rp_excd {K : PySem.W.Frag} {mg : Str → Option Value} {H : Hp} {P : List Addr} {al : List Addr} {v : V} {c : Str} {g : Option PyData} (r : Rp K mg (mask H P) al v (.exc c g)) : ∃ (a C : Addr) (d : Option Addr), v = .ref a ∧ H a = some (exk a C d) ∧ mg c = some (.ref C) ∧ ∀ dd, d = some dd → ∃ fs, H dd = some (.xd fs) := by
  cases r with
  | @exc a C _ _ d h1 h2 =>
    obtain ⟨C', q1, q2, q3⟩ := h2
    cases q2
    refine ⟨a, C, d, rfl, (of_mask h1).2, q1, fun dd e => ?_⟩
    cases g with
    | none => rw [q3] at e; cases e
    | some x =>
      obtain ⟨dd', v, e1, e2, _⟩ := q3
      rw [e1] at e
      cases e
      exact ⟨_, (of_mask e2).2⟩
theorem se_isE {y : Str} {p q pos : Pos} {e : Expr} {f : EF} (E : ExcAll X.K X.mg) (hg : Gl X "isinstance") (hm : X.mg "isinstance" = none) (ha : SE X Wx e f) (hy : y ∈ hasteS :: ten := by decide) (hg2 : Gl X y := by rfl) (hd2 : (y == ("__debug__" : Str)) = false := by decide)
    (he : starEach (e :: [.Name y q]) X.env = (false, eval e X.env) :: starEach [.Name y q] X.env := by rfl) : SE X Wx (.Call (.Name "isinstance" p) [e, .Name y q] [] pos) (eIsE y f) := by
  obtain ⟨D, hD⟩ := E.at_ y hy
  have nv : ¬ y = ("ValueError" : Str) := by
    intro z
    rw [z] at hy
    exact absurd hy (by decide)
  refine PE.imp (pe_callB call_isX hg hm (by decide +kernel) (pa_cons ha (pa_cons (pe_glob (v := .ref D) hg2 hD rfl hd2) pa_nil) he) (by decide) (by decide) he rfl) ?_
  rintro σ H Q ⟨env, L, al, T', c, h⟩
  refine rseq (R := RV X) c h fun v H1 w L1 al1 c1 s1 r1 q1 => ?_
  split at q1
  · rename_i cn g
    split at q1
    · rename_i hc
      obtain ⟨a, C, d, rfl, ea, ec, ed⟩ := rp_excd r1
      have : (isErr cn y || decide (y = ("ValueError" : Str))) = isErr cn y := by rw [decide_eq_false nv, Bool.or_false]
      rw [this] at q1
      exact ⟨.ref a, .ref D, .ref D, isErr cn y, rfl, .own D, .inr ⟨a, C, d, rfl, ea, E.kx cn hc C ec, ed, E.ko cn hc y hy C D ec hD⟩, gok c1.rel q1 (.d (.bl _))⟩
    · exact q1.elim
  · have : v = .non := by
      cases r1 with
      | d r => cases r; rfl
    subst this
    exact ⟨.non, .ref D, .ref D, false, rfl, .own D, .inl ⟨_, .base .non, E.kn y hy D hD⟩, gok c1.rel q1 (.d (.bl _))⟩
  · exact q1.elim
theorem se_isV {p q pos : Pos} {e : Expr} {f : EF} (E : ExcAll X.K X.mg) (hg : Gl X "isinstance") (hm : X.mg "isinstance" = none) (hm2 : X.mg "ValueError" = none) (ha : SE X Wx e f) (hg2 : Gl X "ValueError" := by rfl)
    (he : starEach (e :: [.Name "ValueError" q]) X.env = (false, eval e X.env) :: starEach [.Name "ValueError" q] X.env := by rfl) : SE X Wx (.Call (.Name "isinstance" p) [e, .Name "ValueError" q] [] pos) (eIsE "ValueError" f) := by
  refine PE.imp (pe_callB call_isX hg hm (by decide +kernel) (pa_cons ha (pa_cons (pe_bltn (v := .ty "ValueError") hg2 hm2 (by decide +kernel) rfl (by decide) (by decide)) pa_nil) he) (by decide) (by decide) he rfl) ?_
  rintro σ H Q ⟨env, L, al, T', c, h⟩
  refine rseq (R := RV X) c h fun v H1 w L1 al1 c1 s1 r1 q1 => ?_
  split at q1
  · rename_i cn g
    split at q1
    · rename_i hc
      obtain ⟨a, C, d, rfl, ea, ec, ed⟩ := rp_excd r1
      simp only [decide_true, Bool.or_true] at q1
      exact ⟨.ref a, .ty "ValueError", .type "ValueError", true, rfl, .ty _, .inr ⟨a, C, d, rfl, ea, E.kx cn hc C ec, ed, E.kv cn hc C ec⟩, gok c1.rel q1 (.d (.bl _))⟩
    · exact q1.elim
  · have : v = .non := by
      cases r1 with
      | d r => cases r; rfl
    subst this
    exact ⟨.non, .ty "ValueError", .type "ValueError", false, rfl, .ty _, .inl ⟨_, .base .non, E.nv⟩, gok c1.rel q1 (.d (.bl _))⟩
  · exact q1.elim
def sTry (i j : Nat) (f : SFn) : SFn := fun env L => match f env L with
  | .exc c g env1 L1 => if c ∈ ten ∧ i < env1.length then .nx ((env1.set j (some (.exc c g))).set i none) L1 else .stuck
  | o => o
end
end L2.HW
namespace L2.HW
open PySem PySem.Spec PyProof.Rows
section
variable {X : Cx} {Wx : WX} {k : Nat}
theorem conf_none {K : PySem.W.Frag} {mg : Str → Option Value} {σ : St} {H : Hp} {env : En} {L : LH} {al T : List Addr} (c : Conf K mg σ H env L al T) (i : Nat) : Conf K mg (σ.set i none) H (env.set i none) L al T :=
  ⟨c.rel, by simpa using c.len, fun j u e => by
    by_cases h : i = j
    · subst h
      by_cases q : i < env.length
      · rw [List.getElem?_set_self q] at e; cases e
      · rw [List.getElem?_eq_none (by simpa using q)] at e; cases e
    · rw [List.getElem?_set_ne h] at e
      obtain ⟨v, h1, h2⟩ := c.slot j u e
      exact ⟨v, by rw [List.getElem?_set_ne h]; exact h1, h2⟩⟩
theorem ss_try {n y : Str} {i j : Nat} {body : List Stmt} {np p1 p2 p3 pos pos' : Pos} {fb : SFn} (c : CtxF X Wx k) (E : ExcAll X.K X.mg) (hij : i ≠ j)
    (hb : ∀ (W : WX) (pn : List (Addr × Obj)) (xe : Value → Shared → Prop), CtxF (X.tr pn xe) W k → SB (X.tr pn xe) W body fb)
    (hi : X.N[i]? = some n := by rfl) (hj : X.N[j]? = some y := by rfl) (hln : X.env.kindOf n = some .local := by rfl) (hv : Vis X.env.scope n := by exact Or.inl rfl) (hy : Loc X.env.scope y := by first | exact Or.inl rfl | exact Or.inr rfl)
    (hst : X.stack = X.env :: X.outer := by rfl) (hf : X.env.frame = some X.env.locals := by rfl) (hex : X.ex = [] := by rfl) (hgh : Gl X hasteS := by rfl)
    (hd : (n == ("__debug__" : Str)) = false := by decide) (hcd : (n == ("__classdict__" : Str)) = false := by decide) (hsw : swapsWith (.Name n p2) (some (.Name y p1)) p3.line X.env = pure false := by rfl)
    (hfy : X.fn y = true ∨ X.env.scope.names.lookup y = some .local := by first | exact .inl rfl | exact .inr rfl) :
    SS X Wx (.Try body [.ExceptHandler (some (.Name hasteS np)) (some n) [.Assign [.Name y p1] (.Name n p2) p3] pos'] [] [] pos) (sTry i j fb) := by
  obtain ⟨D, hD⟩ := E.at_ hasteS List.mem_cons_self
  refine PS.imp (ps_try_keep (c := .ref D) (i := i) (tb := fun W => SRdg (X.tr X.pn X.xe) W fb) (ts := fun a cls d => fun D σ H => ∃ v, σ[i]? = some (some v) ∧ D.nx (σ.set j (some v)) H) hst hf hex c.nd hi hln ⟨hgh, by decide, .inl hD⟩ (fun W pn xe tk pa => ?_) (fun a oe cls d pn hz hv' => ?_)) ?_
  · have := hb W pn xe ⟨⟨c.gd, c.rm, tk, c.cm, c.nd⟩, pa⟩
    exact this
  · refine PSs.imp (pss_one (ps_set (X := X.suite a ((a, oe) :: pn)) c.nd hj hy (pe_var hi hv hd hcd) hsw hfy)) ?_
    rintro D σ H ⟨v, h1, h2⟩
    exact ⟨v, h1, h2⟩
  · rintro D2 σ H ⟨env, L, al, T, cf, h⟩
    refine ⟨env, L, al, T, cf, ?_⟩
    unfold sTry at h
    revert h
    generalize fb env L = r
    intro h
    cases r with
    | nx env1 L1 => exact h
    | rt w L1 => exact h
    | rf o L1 => exact h
    | bk env1 L1 => exact h
    | ct env1 L1 => exact h
    | stuck => exact h
    | exc cn g env1 L1 =>
      simp only at h
      split at h
      · rename_i hcl
        obtain ⟨hc, hlt⟩ := hcl
        intro cls d σ' H' al' s cf' ex
        obtain ⟨C, q1, q2, q3⟩ := ex
        subst q2
        refine ⟨E.em cn hc C D q1 hD, C, rfl, fun a ha => ?_⟩
        have hlen := cf'.len
        have hil : i < σ'.length := by omega
        · refine ⟨.ref a, by rw [List.getElem?_set_self hil], fun _ => ?_⟩
          have hal := s.rel.alloc (o := exk a C d) ha
          have na := s.rel.fresh ha
          have s2 := Stp.trans cf.rel.len s hal
          have cf2 := cf'.stp hal
          have ex2 : ExR X.mg (mask (upd H' a (exk a C d)) (al' ++ T)) cn g (.ref C) d := ExR.le hal.le ⟨C, q1, rfl, q3⟩
          have rp : Rp X.K X.mg (mask (upd H' a (exk a C d)) (al' ++ T)) al' (.ref a) (.exc cn g) := .exc (mask_of (by simp [na.1, na.2]) upd_same) ex2
          refine h _ _ al' s2 ?_
          have e1 := conf_none (cf2.put (i := j) rp) i
          have e2 : (((σ'.set i (some (.ref a))).set j (some (.ref a))).set i none) = ((σ'.set j (some (.ref a))).set i none) := by
            rw [List.set_comm _ _ hij, List.set_set]
          rw [e2]
          exact e1
      · exact h.elim
def zipV (ws us : List Va) : List Va := List.zipWith (fun w u => mkTup [w, u]) ws us
def srcZ (fs : En → LH → Res (List Va)) : Srcf := fun env L => (fs env L).bind fun ws L1 => match ws with
  | [w, u] => match srcOf w L1, srcOf u L1 with
    | some (xs, none), some (ys, none) => match w, u with
      | .d (.list _), .d (.list _) => .ok (zipV xs ys, none) L1
      | .d (.tuple _), .d (.tuple _) => .ok (zipV xs ys, none) L1
      | _, _ => .stuck
    | _, _ => .stuck
  | _ => .stuck
theorem zipV_at {ws us : List Va} {i : Nat} {x : Va} (e : (zipV ws us)[i]? = some x) : ∃ w u, ws[i]? = some w ∧ us[i]? = some u ∧ x = mkTup [w, u] := by
  unfold zipV at e
  rw [List.getElem?_zipWith] at e
  cases e1 : ws[i]? with
  | none => rw [e1] at e; simp at e
  | some w =>
    cases e2 : us[i]? with
    | none => rw [e1, e2] at e; simp at e
    | some u =>
      rw [e1, e2] at e
      simp at e
      exact ⟨w, u, rfl, rfl, e.symm⟩
theorem wlk_zip {K : PySem.W.Frag} {mg : Str → Option Value} {H : Hp} {al T : List Addr} {L : LH} {sq : Hp → Addr → List V → Prop} {J : Addr → Addr → It} {a b : Addr} {vs us : List V} {ws xs : List Va}
    (hJ : J = fun a b => ⟨fun i H => ∃ xs ys x y, sq H a xs ∧ sq H b ys ∧ xs[i]? = some x ∧ ys[i]? = some y, fun i H v H' => ∃ T x y, v = V.ref T ∧ H T = none ∧ H' = upd H T (.tup [x, y]) ∧ (∀ xs, sq H a xs → xs[i]? = some x) ∧ ∀ ys, sq H b ys → ys[i]? = some y, fun i H => ∃ xs ys, sq H a xs ∧ sq H b ys ∧ (xs.length ≤ i ∨ ys.length ≤ i)⟩)
    (hs : ∀ H1 al1 T1 L1, Stp K mg H al T L H1 al1 T1 L1 → sq H1 a vs) (hu : ∀ H1 al1 T1 L1, Stp K mg H al T L H1 al1 T1 L1 → sq H1 b us) (r : Rps K mg (mask H (al ++ T)) al vs ws) (q : Rps K mg (mask H (al ++ T)) al us xs) : Wlk K mg H al T L (J a b) (zipV ws xs) := by
  subst hJ
  intro H1 al1 T1 L1 s
  have h1 := hs H1 al1 T1 L1 s
  have h2 := hu H1 al1 T1 L1 s
  have r1 := s.rps r
  have q1 := s.rps q
  refine ⟨⟨vs, us, h1, h2, ?_⟩, fun i w e => ?_⟩
  · have e1 := Paired.length r1
    have e2 := Paired.length q1
    have : (zipV ws xs).length = min ws.length xs.length := by unfold zipV; simp
    omega
  · obtain ⟨x, y, ex, ey, rfl⟩ := zipV_at e
    obtain ⟨v, e2, p2⟩ := rps_get r1 ex
    obtain ⟨v', e3, p3⟩ := rps_get q1 ey
    refine ⟨⟨vs, us, v, v', h1, h2, e2, e3⟩, fun z H2 yy => ?_⟩
    obtain ⟨p, x', y', rfl, hp, rfl, y1, y2⟩ := yy
    have k1 := y1 vs h1
    have k2 := y2 us h2
    rw [e2] at k1; cases k1
    rw [e3] at k2; cases k2
    have st := s.rel.alloc (o := .tup [v, v']) hp
    obtain ⟨n1, n2⟩ := s.rel.fresh hp
    exact ⟨st, rp_mkTup (mask_of (by simp [n1, n2]) upd_same) (.cons (st.rp p2) (.cons (st.rp p3) .nil))⟩
theorem si_zip {e e2 : Expr} {fs : En → LH → Res (List Va)} {p pos tpos : Pos} {elts : List Expr} {kk : Nat} (hg : Gl X "zip") (hm : X.mg "zip" = none) (ha : SA X Wx [e, e2] fs) (hs : starEach [e, e2] X.env = (false, eval e X.env) :: starEach [e2] X.env := by rfl)
    (hpl : ((backTo pos (starEach [e2] X.env)).any fun x => x.1) = false := by rfl) :
    SI X Wx (.Tuple elts kk tpos) (.Call (.Name "zip" p) [e, e2] [] pos) (srcZ fs) := by
  refine PI.imp (RZ.pi_zipA hg hm ha hs hpl) ?_
  rintro σ H R ⟨env, L, al, T, c, q⟩
  unfold srcZ at q
  refine iseq (R := RVs X) c q fun vs H1 ws L1 al1 c1 s1 r1 q1 => ?_
  split at q1
  · rename_i w u
    split at q1
    · rename_i xs ys e1 e2
      cases r1 with
      | cons rv r1 =>
        cases r1 with
        | cons ru r1 =>
          cases r1
          split at q1
          · cases rv with
            | d rv =>
              cases rv with
              | lst m1 d1 =>
                cases ru with
                | d ru =>
                  cases ru with
                  | lst m2 d2 =>
                    cases e1
                    cases e2
                    refine ⟨_, _, _, _, rfl, .inl ⟨SqL.of (of_mask m1).2, SqL.of (of_mask m2).2, q1 _ H1 al1 (Stp.refl c1.rel) ?_⟩⟩
                    exact wlk_zip (sq := fun H a xs => SqL X.K H a xs) (J := fun a b => Itz X.K a b) rfl (fun H1 al1 T1 L1 s => SqL.of (of_mask (s.le _ _ m1)).2) (fun H1 al1 T1 L1 s => SqL.of (of_mask (s.le _ _ m2)).2) (all_dq d1) (all_dq d2)
          · cases rv with
            | d rv =>
              cases rv with
              | tup m1 d1 =>
                cases ru with
                | d ru =>
                  cases ru with
                  | tup m2 d2 =>
                    cases e1
                    cases e2
                    refine ⟨_, _, _, _, rfl, .inr ⟨SqT.of (of_mask m1).2, SqT.of (of_mask m2).2, q1 _ H1 al1 (Stp.refl c1.rel) ?_⟩⟩
                    exact wlk_zip (sq := fun H a xs => SqT X.K H a xs) (J := fun a b => RZ.ItzT X.K a b) rfl (fun H1 al1 T1 L1 s => SqT.of (of_mask (s.le _ _ m1)).2) (fun H1 al1 T1 L1 s => SqT.of (of_mask (s.le _ _ m2)).2) (all_dq d1) (all_dq d2)
          · exact q1.elim
    · exact q1.elim
  · exact q1.elim
end
end L2.HW
namespace L2.HW
open PySem PySem.Spec PyProof.Rows
end L2.HW
namespace L2.HW
open PySem PySem.Spec PyProof.Rows
section
variable {X : Cx} {Wx : WX} {k : Nat}
def mIndex : Va → List Va → LH → Res Va := fun w ws L => match w, ws with
  | .d (.list ds), [.d d] => if SeqAt.shaped (.list ds) = true ∧ SeqAt.shaped d = true then (match ds.findIdx? (fun z => PyData.eqv z d) with
    | some j => .ok (.d (.int (j : Nat))) L
    | none => .stuck) else .stuck
  | _, _ => .stuck
end
@[simp] theorem u_mIndex w ws L : mIndex w ws L = (match w, ws with
  | .d (.list ds), [.d d] => if SeqAt.shaped (.list ds) = true ∧ SeqAt.shaped d = true then (match ds.findIdx? (fun z => PyData.eqv z d) with
    | some j => .ok (.d (.int (j : Nat))) L
    | none => .stuck) else .stuck
  | _, _ => .stuck) := by first | exact (rfl) | (unfold mIndex; exact (rfl))
end L2.HW
namespace L2.HW
open PySem PySem.Spec PyProof.Rows
section
variable {K : PySem.W.Frag} {mg : Str → Option Value} {H H1 H2 : Hp} {al al1 al2 T T1 T2 : List Addr} {L L1 L2 : LH} {D : Addr}
theorem upd_upd (H : Hp) (D : Addr) (o z : HO) : upd (upd H D o) D z = upd H D z := by
  funext b
  by_cases e : b = D
  · subst e; rw [upd_same, upd_same]
  · rw [upd_ne e, upd_ne e, upd_ne e]
theorem upd_id {H : Hp} {D : Addr} {o : HO} (e : H D = some o) : upd H D o = H := by
  funext b
  by_cases z : b = D
  · subst z; rw [upd_same, e]
  · rw [upd_ne z]
abbrev zD : HO := .lst []
theorem mask_D {H : Hp} {o : HO} (h : D ∈ T) : mask (upd H D o) (al ++ T) = mask H (al ++ T) := mask_in (List.mem_append_right _ h)
theorem Rel.atD {o : HO} (h : D ∈ T) (r : Rel K mg H al T L) : Rel K mg (upd H D o) al T L := by
  refine ⟨r.len, r.nd, r.dis, fun a ha => ?_, fun n ob e => ?_⟩
  · by_cases z : a = D
    · subst z; rw [upd_same]; simp
    · rw [upd_ne z]; exact r.trk a ha
  · obtain ⟨a, e1, q⟩ := r.cell n ob e
    have na : a ≠ D := by
      rintro rfl
      exact r.dis a (List.mem_of_getElem? e1) h
    refine ⟨a, e1, ?_⟩
    rw [mask_D h]
    exact ObR.le (Le.refl _) (ALe.refl _) (fun o e => by rw [upd_ne na]; exact e) q
def GoD (K : PySem.W.Frag) (mg : Str → Option Value) (D : Addr) (H : Hp) (al T : List Addr) (L : LH) (H' : Hp) (al' T' : List Addr) (L' : LH) : Prop :=
  Stp K mg (upd H D zD) al T L (upd H' D zD) al' T' L'
theorem GoD.mem (h : D ∈ T) (g : GoD K mg D H al T L H1 al1 T1 L1) : D ∈ T1 := by
  obtain ⟨te, e, _⟩ := g.text
  rw [e]; exact List.mem_append_right _ h
theorem GoD.rel (h : D ∈ T) (hd : H1 D ≠ none) (g : GoD K mg D H al T L H1 al1 T1 L1) : Rel K mg H1 al1 T1 L1 := by
  cases e : H1 D with
  | none => exact absurd e hd
  | some o =>
    have r := (Stp.rel g).atD (o := o) (g.mem h)
    rw [upd_upd, upd_id e] at r
    exact r
theorem GoD.of (h : D ∈ T) (s : Stp K mg H al T L H1 al1 T1 L1) (hd : H D ≠ none) : GoD K mg D H al T L H1 al1 T1 L1 := by
  have m1 : D ∈ T1 := by
    obtain ⟨te, e, _⟩ := s.text
    rw [e]; exact List.mem_append_right _ h
  have nn : ∀ b, H b = none → (upd H D zD) b = none := fun b e => by
    have : b ≠ D := by rintro rfl; exact hd e
    rw [upd_ne this]; exact e
  obtain ⟨be, e1, f1⟩ := s.ext
  obtain ⟨te, e2, f2⟩ := s.text
  refine ⟨s.rel.atD m1, ⟨be, e1, fun b hb => nn b (f1 b hb)⟩, ⟨te, e2, fun b hb => nn b (f2 b hb)⟩, fun b o e na => ?_, fun b e => ?_, s.lck, s.alv⟩
  · by_cases z : b = D
    · subst z; rw [upd_same] at e ⊢; exact e
    · rw [upd_ne z] at e ⊢; exact s.frame b o e na
  · by_cases z : b = D
    · subst z; rw [upd_same]; simp
    · rw [upd_ne z] at e ⊢; exact s.stay b e
theorem GoD.upd {o : HO} (g : GoD K mg D H al T L H1 al1 T1 L1) : GoD K mg D H al T L (upd H1 D o) al1 T1 L1 := by
  unfold GoD
  rw [upd_upd]
  exact g
theorem GoD.trans (hl : al.length = L.length) (g : GoD K mg D H al T L H1 al1 T1 L1) (k : GoD K mg D H1 al1 T1 L1 H2 al2 T2 L2) : GoD K mg D H al T L H2 al2 T2 L2 := Stp.trans hl g k
theorem GoD.opened (r : Rel K mg H al T L) (h : D ∈ T) {lk : Option Nat} (g : GoD K mg D H al T (lockL lk L) H1 al1 T1 L1) : GoD K mg D H al T L H1 al1 T1 (openL lk L L1) := Stp.opened (r.atD h) g
theorem GoD.rps (h : D ∈ T) (g : GoD K mg D H al T L H1 al1 T1 L1) {v : List V} {w : List Va} (r : Rps K mg (mask H (al ++ T)) al v w) : Rps K mg (mask H1 (al1 ++ T1)) al1 v w := by
  have q := Stp.rps g (v := v) (w := w) (by rw [mask_D h]; exact r)
  rw [mask_D (g.mem h)] at q
  exact q
theorem GoD.frame (g : GoD K mg D H al T L H1 al1 T1 L1) {a : Addr} {o : HO} (na : a ≠ D) (e : H a = some o) (n : ¬ Alv al L a) : H1 a = some o := by
  have q := Stp.frame g a o (by rw [upd_ne na]; exact e) n
  rw [upd_ne na] at q
  exact q
end
end L2.HW
namespace L2.HW
open PySem PySem.Spec PyProof.Rows
def pickL {α : Type} (is : List Nat) (ws : List α) : List α := is.filterMap fun i => ws[i]?
section
variable {X : Cx} {Wx : WX} {k j : Nat} {ps ks : List Str} {is : List Nat} {kk : List (List Str × List Nat)} {x : Str} {p pos : Pos} {kws : List Keyword} {fs : En → LH → Res (List Va)}
def eCallK (F : Fn) (m : Nat) (is : List Nat) (fs : En → LH → Res (List Va)) : EF := fun env L => (fs env L).bind fun ws L1 => if ws.length = m then F (pickL is ws) L1 else .stuck
def fCallK (F : FnF) (m : Nat) (is : List Nat) (fs : En → LH → Res (List Va)) : En → LH → Res Ob := fun env L => (fs env L).bind fun ws L1 => if ws.length = m then F (pickL is ws) L1 else .stuck
end
@[simp] theorem u_eCallK (F : Fn) (m : Nat) (is : List Nat) (fs : En → LH → Res (List Va)) env L : eCallK F m is fs env L = ((fs env L).bind fun ws L1 => if ws.length = m then F (pickL is ws) L1 else .stuck) := by unfold eCallK; exact (rfl)
@[simp] theorem u_fCallK (F : FnF) (m : Nat) (is : List Nat) (fs : En → LH → Res (List Va)) env L : fCallK F m is fs env L = ((fs env L).bind fun ws L1 => if ws.length = m then F (pickL is ws) L1 else .stuck) := by unfold fCallK; exact (rfl)
end L2.HW
namespace L2.HW
open PySem PySem.Spec PyProof.Rows
section
variable {X : Cx} {Wx : WX} {k : Nat}
def eSetdT (f g h : EF) : EF := fun env L => (f env L).bind fun w L1 => if isD L1 w then (g env L1).bind fun u L2 => (h env L2).bind fun z L3 => match w, u with
  | .loc n, .d (.tuple xs) => match L3[n]?, intsOf xs with
    | some (some (.di [])), some ns => .ok z (L3.set n (some (.dt [(ns, z)])))
    | some (some (.dt ks)), some ns => match alook ks ns with
      | some x => .ok x L3
      | none => if ks.length < sizeLine then .ok z (L3.set n (some (.dt (aput ks ns z)))) else .stuck
    | _, _ => .stuck
  | _, _ => .stuck
  else .stuck
end
@[simp] theorem u_eSetdT (f g h : EF) env L : eSetdT f g h env L = ((f env L).bind fun w L1 => if isD L1 w then (g env L1).bind fun u L2 => (h env L2).bind fun z L3 => match w, u with
  | .loc n, .d (.tuple xs) => match L3[n]?, intsOf xs with
    | some (some (.di [])), some ns => .ok z (L3.set n (some (.dt [(ns, z)])))
    | some (some (.dt ks)), some ns => match alook ks ns with
      | some x => .ok x L3
      | none => if ks.length < sizeLine then .ok z (L3.set n (some (.dt (aput ks ns z)))) else .stuck
    | _, _ => .stuck
  | _, _ => .stuck
  else .stuck) := by unfold eSetdT; exact (rfl)
end L2.HW
namespace L2.HW
open PySem PySem.Spec PyProof.Rows
end L2.HW
namespace L2.HW
open PySem PySem.Spec PyProof.Rows
section
variable {X : Cx} {Wx : WX} {k : Nat}
def cSortedD : List Va → LH → Res Ob := fun ws L => match ws with
  | [.dct ks] => if ks.length < 64 then .ok (.lst ((sortI (ks.map (·.1))).map fun i => .d (.int i))) L else .stuck
  | _ => .stuck
def eLt4 (fa fb fc fd : EF) : EF := fun env L => (fa env L).bind fun a L1 => (fb env L1).bind fun b L2 => match a, b with
  | .d (.int i), .d (.int j) => if i < j then (fc env L2).bind fun c L3 => match c with
      | .d (.int k) => if j < k then (fd env L3).bind fun d L4 => match d with
          | .d (.int m) => .ok (.d (.bool (decide (k < m)))) L4
          | _ => .stuck
        else .ok (.d (.bool false)) L3
      | _ => .stuck
    else .ok (.d (.bool false)) L2
  | _, _ => .stuck
@[simp] theorem u_eLt4 (fa fb fc fd : EF) env L : eLt4 fa fb fc fd env L = ((fa env L).bind fun a L1 => (fb env L1).bind fun b L2 => match a, b with
  | .d (.int i), .d (.int j) => if i < j then (fc env L2).bind fun c L3 => match c with
      | .d (.int k) => if j < k then (fd env L3).bind fun d L4 => match d with
          | .d (.int m) => .ok (.d (.bool (decide (k < m)))) L4
          | _ => .stuck
        else .ok (.d (.bool false)) L3
      | _ => .stuck
    else .ok (.d (.bool false)) L2
  | _, _ => .stuck) := by unfold eLt4; exact (rfl)
@[simp] theorem u_cSortedD ws L : cSortedD ws L = (match ws with
  | [.dct ks] => if ks.length < 64 then .ok (.lst ((sortI (ks.map (·.1))).map fun i => .d (.int i))) L else .stuck
  | _ => .stuck) := by unfold cSortedD; exact (rfl)
end
end L2.HW
namespace L2.HW
open PySem PySem.Spec PyProof.Rows
section
variable {X : Cx} {Wx : WX}
def sAugL (i : Nat) (f : EF) : SFn := fun env L => match env[i]? with
  | some (some (.loc n)) => (f env L).then env fun w L1 => match L1[n]?, w.items L1 with
    | some (some (.lst ws)), some us => if ws.length + us.length ≤ sizeLine then .nx (env.set i (some (.loc n))) (L1.set n (some (.lst (ws ++ us)))) else .stuck
    | _, _ => .stuck
  | _ => .stuck
end
@[simp] theorem u_sAugL (i : Nat) (f : EF) env L : sAugL i f env L = (match env[i]? with
  | some (some (.loc n)) => (f env L).then env fun w L1 => match L1[n]?, w.items L1 with
    | some (some (.lst ws)), some us => if ws.length + us.length ≤ sizeLine then .nx (env.set i (some (.loc n))) (L1.set n (some (.lst (ws ++ us)))) else .stuck
    | _, _ => .stuck
  | _ => .stuck) := by unfold sAugL; rfl
end L2.HW
namespace L2.HW
open PySem PySem.Spec PyProof.V PyProof.Rows RZ
open PySem.Sem (wp)
section
variable {X : Cx} {Wx : WX} {k : Nat}
def srcZM (fs : En → LH → Res (List Va)) : Srcf := fun env L => (fs env L).bind fun ws L1 => match ws with
  | [.d (.tuple xs), w] => match srcOf w L1 with
    | some p => match w with
      | .loc _ => .ok (zipV (xs.map Va.d) p.1, p.2) L1
      | .d (.list _) => .ok (zipV (xs.map Va.d) p.1, p.2) L1
      | _ => .stuck
    | none => .stuck
  | _ => .stuck
@[simp] theorem u_srcZM (fs : En → LH → Res (List Va)) env L : srcZM fs env L = ((fs env L).bind fun ws L1 => match ws with
  | [.d (.tuple xs), w] => match srcOf w L1 with
    | some p => match w with
      | .loc _ => .ok (zipV (xs.map Va.d) p.1, p.2) L1
      | .d (.list _) => .ok (zipV (xs.map Va.d) p.1, p.2) L1
      | _ => .stuck
    | none => .stuck
  | _ => .stuck) := by unfold srcZM; exact (rfl)
end
end L2.HW
namespace L2.HW
open PySem PySem.Spec PyProof.Rows
end L2.HW
namespace L2.HW
open PySem PySem.Spec PyProof.Rows
section
variable {X : Cx} {Wx : WX}
def dcompL2 (g : Va → En → LH → Res En) (s1 : Srcf) (g1 : Va → En → LH → Res En) (fk fv : EF) (vs1 : List Nat) : List Va → List (Int × Va) → En → LH → Res (List (Int × Va))
  | [], acc, _, L => .ok acc L
  | w :: ws, acc, env, L => match g w env L with
    | .ok env1 L1 => match s1 env1 L1 with
      | .ok p L2 => match dcompL g1 tTrue fk fv p.1 acc (wipeE env1 vs1) (lockL p.2 L2) with
        | .ok acc1 L3 => dcompL2 g s1 g1 fk fv vs1 ws acc1 env (openL p.2 L2 L3)
        | _ => .stuck
      | _ => .stuck
    | _ => .stuck
def fin3 (lk : Option Nat) (L1 : LH) (r : Res (List (Int × Va))) : Res Ob := match r with
  | .ok us L3 => .ok (.di us) (openL lk L1 L3)
  | _ => .stuck
def fDComp2 (s : Srcf) (g : Va → En → LH → Res En) (s1 : Srcf) (g1 : Va → En → LH → Res En) (fk fv : EF) (vs vs1 : List Nat) : En → LH → Res Ob := fun env L => (s env L).bind fun p L1 =>
  fin3 p.2 L1 (dcompL2 g s1 g1 fk fv vs1 p.1 [] (wipeE env vs) (lockL p.2 L1))
@[simp] theorem u_fDComp2 (s : Srcf) (g : Va → En → LH → Res En) (s1 : Srcf) (g1 : Va → En → LH → Res En) (fk fv : EF) (vs vs1 : List Nat) (env : En) (L : LH) : fDComp2 s g s1 g1 fk fv vs vs1 env L = ((s env L).bind fun p L1 => fin3 p.2 L1 (dcompL2 g s1 g1 fk fv vs1 p.1 [] (wipeE env vs) (lockL p.2 L1))) := rfl
end
end L2.HW
set_option maxHeartbeats 4000000
namespace L2.HW
open PySem PySem.Spec PyProof.Rows
end L2.HW
set_option maxHeartbeats 200000
namespace L2.HW
open PySem PySem.Spec PyProof.Rows
def insKy {α : Type} (q : Int × α) : List (Int × α) → List (Int × α)
  | [] => [q]
  | a :: r => if q.1 ≤ a.1 then q :: a :: r else a :: insKy q r
def sortKy {α : Type} : List (Int × α) → List (Int × α)
  | [] => []
  | q :: r => insKy q (sortKy r)
end L2.HW
namespace L2.HW
open PySem PySem.Spec PyProof.Rows
section
variable {X : Cx} {Wx : WX}
def Va.rows (L : LH) : Va → Option (List Va)
  | .d (.tuple ds) => some (ds.map .d)
  | w => w.items L
def sAugR (i : Nat) (f : EF) : SFn := fun env L => match env[i]? with
  | some (some (.loc n)) => (f env L).then env fun w L1 => match L1[n]?, w.rows L1 with
    | some (some (.lst ws)), some us => if ws.length + us.length ≤ sizeLine then .nx (env.set i (some (.loc n))) (L1.set n (some (.lst (ws ++ us)))) else .stuck
    | _, _ => .stuck
  | _ => .stuck
end
@[simp] theorem u_sAugR (i : Nat) (f : EF) env L : sAugR i f env L = (match env[i]? with
  | some (some (.loc n)) => (f env L).then env fun w L1 => match L1[n]?, w.rows L1 with
    | some (some (.lst ws)), some us => if ws.length + us.length ≤ sizeLine then .nx (env.set i (some (.loc n))) (L1.set n (some (.lst (ws ++ us)))) else .stuck
    | _, _ => .stuck
  | _ => .stuck) := by unfold sAugR; rfl
@[simp] theorem rows_tuple (L : LH) (ds : List PyData) : (Va.d (.tuple ds)).rows L = some (ds.map .d) := (rfl)
@[simp] theorem rows_list (L : LH) (ds : List PyData) : (Va.d (.list ds)).rows L = some (ds.map .d) := (rfl)
def keyL (F : Fn) : List Va → LH → Res (List Int)
  | [], L => .ok [] L
  | w :: ws, L => match F [w] L with
    | .ok (.d (.int k)) L1 => (keyL F ws L1).bind fun ks L2 => .ok (k :: ks) L2
    | _ => .stuck
def fSortK (F : Fn) (fs : En → LH → Res (List Va)) : En → LH → Res Ob := fun env L => (fs env L).bind fun vs L1 => match vs with
  | [w] => match w.items L1 with
    | some ws => (keyL F ws L1).bind fun ks L2 => .ok (.lst ((sortKy (ks.zip ws)).map (·.2))) L2
    | none => .stuck
  | _ => .stuck
@[simp] theorem u_fSortK (F : Fn) (fs : En → LH → Res (List Va)) env L : fSortK F fs env L = ((fs env L).bind fun vs L1 => match vs with
  | [w] => match w.items L1 with
    | some ws => (keyL F ws L1).bind fun ks L2 => .ok (.lst ((sortKy (ks.zip ws)).map (·.2))) L2
    | none => .stuck
  | _ => .stuck) := by unfold fSortK; exact (rfl)
end L2.HW
namespace L2.HW
open PySem PySem.Spec PyProof.Rows
section
variable {X : Cx} {Wx : WX} {k : Nat}
def mPopAt : Va → List Va → LH → Res Va := fun w ws L => match w, ws with
  | .loc n, [.d (.int i)] => match L[n]? with
    | some (some (.lst us)) => if 0 ≤ i ∧ i < 2 ^ 63 then match us[i.toNat]? with
      | some u => .ok u (L.set n (some (.lst (us.eraseIdx i.toNat))))
      | none => .stuck
      else .stuck
    | _ => .stuck
  | _, _ => .stuck
def deepL (L : LH) : List Va → Option (List PyData)
  | [] => some []
  | w :: ws => match w.data L, deepL L ws with
    | some x, some xs => some (x :: xs)
    | _, _ => none
def opInL (neg : Bool) : Op2 := fun w u L => match u.items L, w.data L with
  | some ws, some x => match deepL L ws with
    | some ds => if SeqAt.shaped x && SeqAt.shaped (.list ds) then .ok (.d (.bool (if neg then !(ds.any fun z => PyData.eqv z x) else ds.any fun z => PyData.eqv z x))) L else .stuck
    | none => .stuck
  | _, _ => .stuck
variable {a b : Expr} {fa fb : EF} {pos : Pos}
end
@[simp] theorem u_mPopAt w ws L : mPopAt w ws L = (match w, ws with
  | .loc n, [.d (.int i)] => match L[n]? with
    | some (some (.lst us)) => if 0 ≤ i ∧ i < 2 ^ 63 then match us[i.toNat]? with
      | some u => .ok u (L.set n (some (.lst (us.eraseIdx i.toNat))))
      | none => .stuck
      else .stuck
    | _ => .stuck
  | _, _ => .stuck) := by unfold mPopAt; exact (rfl)
@[simp] theorem u_opInL (neg : Bool) w u L : opInL neg w u L = (match u.items L, w.data L with
  | some ws, some x => match deepL L ws with
    | some ds => if SeqAt.shaped x && SeqAt.shaped (.list ds) then .ok (.d (.bool (if neg then !(ds.any fun z => PyData.eqv z x) else ds.any fun z => PyData.eqv z x))) L else .stuck
    | none => .stuck
  | _, _ => .stuck) := by unfold opInL; exact (rfl)
end L2.HW
namespace L2.HW
open PySem PySem.Spec PyProof.Rows
section
variable {X : Cx} {Wx : WX}
def cIntS : List Va → LH → Res Va := fun ws L => match ws with
  | [.d (.str a)] => match PySem.intText? a with
    | some n => if a.length ≤ 640 then .ok (.d (.int n)) L else .stuck
    | none => .stuck
  | _ => .stuck
theorem ok_intS : OkC X (fun xs H Q => ∃ a n, xs = [.str a] ∧ PySem.intText? a = some n ∧ a.length ≤ 640 ∧ Q (.int n) H) cIntS := by
  intro Wx σ H al T L xs ws Q r q h
  unfold cIntS at h
  split at h
  · rename_i a
    split at h
    · rename_i n e
      split at h
      · rename_i hz
        obtain ⟨v, rfl, q1⟩ := rps_1 q
        exact ⟨a, n, by rw [dq_str (rp_d q1)], e, hz, gok r h (.d (.int n))⟩
      · exact h.elim
    · exact h.elim
  · exact h.elim
variable {e o : Expr} {fs : En → LH → Res (List Va)} {p pos apos : Pos}
theorem w_intS (hm : X.mg "int" = none) (ha : SA X Wx [e] fs) (hg : Gl X "int" := by rfl) (he : starEach [e] X.env = (false, eval e X.env) :: starEach [] X.env := by rfl) (hpl : (backTo pos (starEach [] X.env)).any (·.1) = false := by rfl) :
    SE X Wx (.Call (.Name "int" p) [e] [] pos) (eCallB cIntS fs) := se_callTy call_int_str ok_intS hg hm rfl ha (by decide) (by decide) he hpl
@[simp] theorem u_cIntS (ws : List Va) (L : LH) : cIntS ws L = (match ws with
  | [.d (.str a)] => match PySem.intText? a with
    | some n => if a.length ≤ 640 then .ok (.d (.int n)) L else .stuck
    | none => .stuck
  | _ => .stuck) := (rfl)
def strRep (k : Nat) (a : Str) : Str := ⟨(List.replicate k a.cps).foldl (· ++ ·) #[]⟩
theorem foldl_size (xs : List (Array Nat)) : ∀ (acc : Array Nat), (xs.foldl (· ++ ·) acc).size = acc.size + (xs.map Array.size).sum := by
  induction xs with
  | nil => intro acc; simp
  | cons a xs ih =>
    intro acc
    rw [List.foldl_cons, ih, Array.size_append, List.map_cons, List.sum_cons]
    omega
theorem strRep_len (k : Nat) (a : Str) : (strRep k a).length = a.length * k := by
  show ((List.replicate k a.cps).foldl (· ++ ·) #[]).size = a.cps.size * k
  rw [foldl_size]
  induction k with
  | zero => simp
  | succ k ih =>
    rw [List.replicate_succ, List.map_cons, List.sum_cons, Nat.mul_succ]
    simp only [List.size_toArray, List.length_nil, Nat.zero_add] at ih ⊢
    omega
def rMulS : R2 := fun x y H Q => ∃ (a : Str) (k : Int), x = .str a ∧ y = .int k ∧ 2 ≤ k ∧ k ≤ 1000 ∧ 0 < a.length ∧ a.length ≤ 1000 ∧ Q (.str (strRep k.toNat a)) H
theorem op_mulS : OpR X (binaryOp .Mult) rMulS := by
  intro pins s σ H x y v u Q I rx ry h
  obtain ⟨a, k, rfl, rfl, h1, h2, h3, h4, q⟩ := h
  obtain ⟨t, rfl⟩ := rx
  obtain ⟨t', rfl⟩ := ry
  have c1 : ¬ k < 1 := by omega
  have c2 : (k == 1 || a.length == 0) = false := by
    have e1 : (k == 1) = false := by simp; omega
    have e2 : (a.length == 0) = false := by simp; omega
    rw [e1, e2]; rfl
  have m : a.length * k.toNat ≤ 1000 * 1000 := Nat.mul_le_mul h4 (by omega)
  have tl : Builtin.Str.tooLong (a.length * k.toNat) = false := by
    simp only [Builtin.Str.tooLong, sizeLine_eq, decide_eq_false_iff_not]
    omega
  refine PySem.P.mul_str (by
    have e1 : ¬ k < -(2 ^ 63) := by omega
    have e2 : ¬ k ≥ 2 ^ 63 := by omega
    rw [decide_eq_false e1, decide_eq_false e2]; rfl) (fun _ _ z => ?_) (fun _ _ => tl) ?_
  · have h5 : (1000 : Int) * k ≤ 2 ^ 63 - 1 := by omega
    have : (1000 : Int) ≤ (2 ^ 63 - 1) / k := (Int.le_ediv_iff_mul_le (by omega)).mpr h5
    omega
  · rw [if_neg c1, c2]
    exact ⟨by
      have := strRep_len k.toNat a
      show (strRep k.toNat a).length ≤ _
      rw [this]
      rw [sizeLine_eq]
      omega, ⟨.str (strRep k.toNat a), H, I.tok _, ⟨_, rfl⟩, q⟩⟩
def opMulS : Op2 := fun w u L => match w, u with
  | .d (.str a), .d (.int k) => if 2 ≤ k ∧ k ≤ 1000 ∧ 0 < a.length ∧ a.length ≤ 1000 then .ok (.d (.str (strRep k.toNat a))) L else .stuck
  | _, _ => .stuck
theorem ok_mulS : Ok2 X rMulS opMulS := by
  intro Wx σ H al T L x y w u Q r q1 q2 h
  unfold opMulS at h
  split at h
  · split at h
    · rename_i a k hc
      exact ⟨a, k, dq_str (rp_d q1), dq_int (rp_d q2), hc.1, hc.2.1, hc.2.2.1, hc.2.2.2, gok r h (.d (.str _))⟩
    · exact h.elim
  · exact h.elim
@[simp] theorem u_opMulS (w u : Va) (L : LH) : opMulS w u L = (match w, u with
  | .d (.str a), .d (.int k) => if 2 ≤ k ∧ k ≤ 1000 ∧ 0 < a.length ∧ a.length ≤ 1000 then .ok (.d (.str (strRep k.toNat a))) L else .stuck
  | _, _ => .stuck) := (rfl)
variable {a b : Expr} {fa fb fo fe : EF}
theorem w_mulS (ha : SE X Wx a fa) (hb : SE X Wx b fb) : SE X Wx (.BinOp a .Mult b pos) (eOp opMulS fa fb) := se_op op_mulS ok_mulS ha hb
def fSplit (fo fe : EF) : En → LH → Res Ob := fun env L => (fo env L).bind fun w L1 => match w with
  | .d (.str a) => (fe env L1).bind fun u L2 => match u with
    | .d (.str b) => if (b.length == 0) = false ∧ a.length + 2 ≤ sizeLine then .ok (.lst (((Txt.split a b).map PyData.str).map Va.d)) L2 else .stuck
    | _ => .stuck
  | _ => .stuck
theorem dq_strs {M : Hp} : ∀ ys : List Str, DqAll M (ys.map V.str) (ys.map PyData.str)
  | [] => .nil
  | y :: ys => .cons (.str y) (dq_strs ys)
theorem sf_split (ho : SE X Wx o fo) (he : SE X Wx e fe) (hs : starEach [e] X.env = [(false, eval e X.env)] := by rfl) (hbase : attributeBase o "split" X.env (eval o X.env) = eval o X.env := by rfl) (hline : (apos.endLine == pos.line) = true := by rfl) :
    SF X Wx (.Call (.Attribute o "split" apos) [e] [] pos) (fSplit fo fe) := by
  refine PE.imp (pe_split ho he hs hbase hline) ?_
  rintro σ H Q ⟨env, L, al, T, c, q⟩
  refine fseq (R := RV X) c q fun v H1 w L1 al1 c1 s1 r1 q1 => ?_
  split at q1
  · rename_i a
    obtain rfl := dq_str (rp_d r1)
    refine ⟨⟨a, rfl⟩, fseq (R := RV X) c1 q1 fun v2 H2 w2 L2 al2 c2 s2 r2 q2 => ?_⟩
    split at q2
    · rename_i b
      obtain rfl := dq_str (rp_d r2)
      split at q2
      · rename_i hc
        refine ⟨a, b, rfl, rfl, hc.1, hc.2, fnew c2.rel q2 fun p hp e m => ⟨_, e, all_dq (dq_strs _)⟩⟩
      · exact q2.elim
    · exact q2.elim
  · exact q1.elim
@[simp] theorem u_fSplit (env : En) (L : LH) : fSplit fo fe env L = ((fo env L).bind fun w L1 => match w with
  | .d (.str a) => (fe env L1).bind fun u L2 => match u with
    | .d (.str b) => if (b.length == 0) = false ∧ a.length + 2 ≤ sizeLine then .ok (.lst (((Txt.split a b).map PyData.str).map Va.d)) L2 else .stuck
    | _ => .stuck
  | _ => .stuck) := (rfl)
def strsOf : List PyData → Option (List Str)
  | [] => some []
  | .str s :: xs => (strsOf xs).map (s :: ·)
  | _ :: _ => none
theorem strsOf_eq : ∀ {xs : List PyData} {ss : List Str}, strsOf xs = some ss → xs = ss.map PyData.str
  | [], ss, h => by
    cases h; rfl
  | .str s :: xs, ss, h => by
    simp only [strsOf, Option.map_eq_some_iff] at h
    obtain ⟨l, h1, h2⟩ := h
    rw [← h2, strsOf_eq h1]
    rfl
  | .none :: _, _, h => by cases h
  | .bool _ :: _, _, h => by cases h
  | .int _ :: _, _, h => by cases h
  | .list _ :: _, _, h => by cases h
  | .tuple _ :: _, _, h => by cases h
  | .dict _ :: _, _, h => by cases h
theorem strsOf_map (ss : List Str) : strsOf (ss.map PyData.str) = some ss := by
  induction ss with
  | nil => rfl
  | cons s ss ih => simp [strsOf, ih]
theorem vs_strs {M : Hp} : ∀ {vs : List V} {ss : List Str}, DqAll M vs (ss.map PyData.str) → vs = ss.map V.str
  | [], [], _ => rfl
  | _, s :: ss, .cons a b => by rw [dq_str a, vs_strs b]; rfl
def joinOk (a : Str) (ys : List Str) : Bool := decide ((ys.map (·.length)).sum + ys.length * a.length ≤ 16777216)
def eJoin (fo fe : EF) : EF := fun env L => (fo env L).bind fun w L1 => match w with
  | .d (.str a) => (fe env L1).bind fun u L2 => match u.data L2 with
    | some (.list xs) => match strsOf xs with
      | some ys => if joinOk a ys then .ok (.d (.str (Txt.join a ys))) L2 else .stuck
      | none => .stuck
    | _ => .stuck
  | _ => .stuck
@[simp] theorem u_eJoin (env : En) (L : LH) : eJoin fo fe env L = ((fo env L).bind fun w L1 => match w with
  | .d (.str a) => (fe env L1).bind fun u L2 => match u.data L2 with
    | some (.list xs) => match strsOf xs with
      | some ys => if joinOk a ys then .ok (.d (.str (Txt.join a ys))) L2 else .stuck
      | none => .stuck
    | _ => .stuck
  | _ => .stuck) := (rfl)
theorem se_join (ho : SE X Wx o fo) (he : SE X Wx e fe) (hs : starEach [e] X.env = [(false, eval e X.env)] := by rfl) (hbase : attributeBase o "join" X.env (eval o X.env) = eval o X.env := by rfl) (hline : (apos.endLine == pos.line) = true := by rfl) :
    SE X Wx (.Call (.Attribute o "join" apos) [e] [] pos) (eJoin fo fe) := by
  refine PE.imp (pe_join ho he hs hbase hline) ?_
  rintro σ H Q ⟨env, L, al, T, c, q⟩
  refine rseq (R := RV X) c q fun v H1 w L1 al1 c1 s1 r1 q1 => ?_
  split at q1
  · rename_i a
    obtain rfl := dq_str (rp_d r1)
    refine ⟨⟨a, rfl⟩, rseq (R := RV X) c1 q1 fun v2 H2 w2 L2 al2 c2 s2 r2 q2 => ?_⟩
    split at q2
    · rename_i xs ed
      split at q2
      · rename_i ys ey
        split at q2
        · rename_i hc
          have hx := strsOf_eq ey
          subst hx
          cases data_ok c2.rel r2 ed with
          | lst e1 dd =>
            rw [vs_strs dd] at e1
            exact ⟨a, _, ys, rfl, rfl, .inl (SqL.of e1), of_decide_eq_true hc, gok c2.rel q2 (.d (.str _))⟩
        · exact q2.elim
      · exact q2.elim
    · exact q2.elim
  · exact q1.elim
def signsV (z : Str) : List Va := z.cps.toList.map fun c => Va.d (.str ⟨#[c]⟩)
def srcS (f : EF) : Srcf := fun env L => (f env L).bind fun w L1 => match w with
  | .d (.str z) => .ok (signsV z, none) L1
  | _ => .stuck
@[simp] theorem u_srcS {f : EF} (env : En) (L : LH) : srcS f env L = ((f env L).bind fun w L1 => match w with
  | .d (.str z) => .ok (signsV z, none) L1
  | _ => .stuck) := (rfl)
theorem wlk_str {K : PySem.W.Frag} {mg : Str → Option Value} {H : Hp} {al T : List Addr} {L : LH} (z : Str) : Wlk K mg H al T L (Its z) (signsV z) := by
  intro H1 al1 T1 L1 s
  have hl : (signsV z).length = z.cps.size := by simp [signsV]
  refine ⟨by show z.cps.size ≤ _; rw [hl]; exact Nat.le_refl _, fun i w e => ?_⟩
  unfold signsV at e
  rw [List.getElem?_map] at e
  cases ei : z.cps.toList[i]? with
  | none => rw [ei] at e; cases e
  | some c =>
    rw [ei] at e
    cases e
    have e2 : z.cps[i]? = some c := by rw [← Array.getElem?_toList]; exact ei
    refine ⟨by show i < z.cps.size; exact (Array.getElem?_eq_some_iff.mp e2).1, fun x H2 y => ?_⟩
    obtain ⟨rfl, c', e3, rfl⟩ := y
    rw [e2] at e3
    cases e3
    exact ⟨Stp.refl s.rel, .d (.str _)⟩
theorem si_s {tg e : Expr} {f : EF} (h : SE X Wx e f) : SI X Wx tg e (srcS f) := by
  refine PI.imp (pi_str h) ?_
  rintro σ H R ⟨env, L, al, T, c, q⟩
  unfold srcS at q
  refine iseq (R := RV X) c q fun v H1 w L1 al1 c1 s1 r1 q1 => ?_
  split at q1
  · rename_i z
    exact ⟨z, dq_str (rp_d r1), q1 _ H1 al1 (Stp.refl c1.rel) (wlk_str z)⟩
  · exact q1.elim
def srcEk (fs : En → LH → Res (List Va)) : Srcf := fun env L => (fs env L).bind fun ws L1 => match ws with
  | [.d (.list ds), .d (.int k)] => if -(2 ^ 63) ≤ k ∧ k < 2 ^ 63 then .ok (enumV k (ds.map Va.d), none) L1 else .stuck
  | _ => .stuck
@[simp] theorem u_srcEk (env : En) (L : LH) : srcEk fs env L = ((fs env L).bind fun ws L1 => match ws with
  | [.d (.list ds), .d (.int k)] => if -(2 ^ 63) ≤ k ∧ k < 2 ^ 63 then .ok (enumV k (ds.map Va.d), none) L1 else .stuck
  | _ => .stuck) := (rfl)
theorem si_enumk {e2 : Expr} {tpos : Pos} {elts : List Expr} {kk : Nat} (hg : Gl X "enumerate") (hm : X.mg "enumerate" = none) (ha : SA X Wx [e, e2] fs)
    (hs : starEach [e, e2] X.env = (false, eval e X.env) :: starEach [e2] X.env := by rfl) (hpl : (backTo pos (starEach [e2] X.env)).any (·.1) = false := by rfl) :
    SI X Wx (.Tuple elts kk tpos) (.Call (.Name "enumerate" p) [e, e2] [] pos) (srcEk fs) := by
  refine PI.imp (pi_enumG2 (wd_list X.K) hg hm ha hs hpl) ?_
  rintro σ H R ⟨env, L, al, T, c, q⟩
  unfold srcEk at q
  refine iseq (R := RVs X) c q fun vs H1 ws L1 al1 c1 s1 r1 q1 => ?_
  split at q1
  · rename_i ds k
    split at q1
    · rename_i hk
      obtain ⟨v, y, rfl, rv, ry⟩ := rps_2 r1
      cases rv with
      | d rv =>
        cases rv with
        | @lst a xs _ e1 e2 =>
          exact ⟨a, xs, k, by rw [dq_int (rp_d ry)], hk.1, hk.2, SqL.of (of_mask e1).2, q1 _ H1 al1 (Stp.refl c1.rel) (wlk_enum (sq := fun H a xs => SqL X.K H a xs) (fun H1 al1 T1 L1 s => SqL.of (of_mask (s.le _ _ e1)).2) (all_dq e2))⟩
    · exact q1.elim
  · exact q1.elim
end
end L2.HW
namespace PySem
namespace TxX
open PySem.W PySem.Calls PyProof.Rows PySem.HandSPX
def iA (p1 p2 : Pos) : Arguments := { posonlyargs := [], args := [{ arg := "self", annotation := none, pos := p1 }, { arg := "spot", annotation := none, pos := p2 }], vararg := none, kwonlyargs := [], kw_defaults := [], kwarg := none, defaults := [] }
def iB (q1 q2 q3 q4 : Pos) : List Stmt := [.Assign [.Attribute (.Name "self" q1) "spot" q2] (.Name "spot" q3) q4]
def iS : Scope := { kind := .function, names := [(PySem.Str.ofString "self", .local), (PySem.Str.ofString "spot", .local)], isGenerator := false, isCoroutine := false, more := [] }
structure SpotTxt (K : Frag) (mg : Str → Option Value) (C fI : Addr) : Prop where
  gC : mg "NoText" = some (.ref C)
  cls : ∃ nm q N bs bm sn sub ab col dd k0 k1 k2 k3 k5, K.lookup C = some (excClassObj nm q C N bs bm true sn sub ab col dd k0 k1 k2 k3 k5 "ValueError.__new__") ∧ refsVE bm = true
  sa : findIn K (.ref C) "__setattr__" = some (some (.builtin "object.__setattr__"))
  ga : findIn K (.ref C) "__getattribute__" = some (some (.builtin "BaseException.__getattribute__"))
  gg : findIn K (.ref C) "__getattr__" = some none
  noN : findIn K (.ref C) "spot" = some none
  iC : findIn K (.ref C) "__init__" = some (some (.ref fI))
  tC : typeIn K (.ref fI) = some (.type "function")
  kC : keepIn K (.ref C) = true
  exC : subIn K (.ref C) (.type "BaseException") = some true
  tyC : typeIn K (.ref C) = some (.type "type")
  hdC : hasDictIn K C = true
  te : exmOne K (.ref C) (.ref C) = some true
  fn : ∃ (oc : Value) (od : Option Addr) (doc pm : Value) (an : Option Addr) (cdv ct kV : Value) (osl : Array (Option Value)) (p1 p2 q1 q2 q3 q4 : Pos),
    K.lookup fI = some ⟨oc, od, .func (fnOf "__init__" "NoText.__init__" (iA p1 p2) (iB q1 q2 q3 q4) iS .none kV doc pm an cdv ct), osl⟩ ∧ codeIn K cdv "NoText.__init__" = true
theorem one_size (v : Value) : [v].length ≤ sizeLine := by
  rw [sizeLine_eq]
  exact (by decide : 1 ≤ 16777216)
theorem ldC {M : Model} {s : Shared} {name : Str} {scope : Scope} {L a : Addr} {cd : Value} {m : Str → Option Value} {x : Str} {pos : Pos} {v : Value} {Q : Value → Shared → Prop} {A : Around} {E : Value → Shared → Prop} (hn : s.heap.Ns L m) (hv : m x = some v) (h : Q v s)
    (hk : scope.kind = .function := by rfl) (hl : (envOfC name scope L a cd).kindOf x = some .local := by rfl) (hd : (x == ("__debug__" : Str)) = false := by decide) :
    wpAny M A (eval (.Name x pos) (envOfC name scope L a cd)) Q E s := wpAny_Name (wpAny_loadName_local hk hl hn hv h) hd
structure InitEnd (h h' : Heap) (x C dx t1 : Addr) (v : Value) : Prop where
  keep : ∀ b o, b ≠ x → h.get? b = some o → h'.get? b = some o
  obj : h'.get? x = some { cls := .ref C, dict := some dx, data := .fields #[.ref t1, .none, .none, .none, .bool false, .none] }
  dbig : h.objs.size ≤ dx
  dne : dx ≠ x
  ns : h'.Ns1 dx (fun y => if y = "spot" then some v else none)
structure OwnMade (h h' : Heap) (e C d : Addr) (v : Value) : Prop where
  keep : ∀ b o, h.get? b = some o → h'.get? b = some o
  new : h.objs.size ≤ e
  obj : ∃ oe vs, h'.get? e = some oe ∧ oe.cls = .ref C ∧ oe.dict = some d ∧ oe.data = .fields vs ∧ vs[1]? = some .none
  dbig : h.objs.size ≤ d
  dne : d ≠ e
  ns : h'.Ns1 d (fun y => if y = "spot" then some v else none)
section
variable {prog : Program} {w : World} {A : Around} {E : Value → Shared → Prop} {R : Result → Shared → Prop} {s : Shared} {K : Frag} {mg : Str → Option Value} {C fI : Addr}
theorem spot_init (T : SpotTxt K mg C fI) {x t0 : Addr} {v : Value} (X : K.In s.heap) (hlim : s.heap.NoLimit) (hx : s.heap.get? x = some (excO C t0)) (hnx : K.lookup x = none) (hroom : A.depth < recursionLimit)
    (hq : ∀ h' tk dx, InitEnd s.heap h' x C dx t0 v → R (.ok (.ret .none)) { s with heap := h', toks := tk }) :
    codeAny (model prog w) A (.call (.ref fI) ⟨[.ref x, v], []⟩) R s := by
  obtain ⟨oc, od, doc, pm, an, cdv, ct, kV, osl, p1, p2, q1, q2, q3, q4, ho, hcd⟩ := T.fn
  obtain ⟨nm, q, N, bs, bm, sn, sub, ab, col, dd, k0, k1, k2, k3, k5, hC, hbm⟩ := T.cls
  have hcl : clsIn K C = some { name := nm, bases := bs, mro := .ref C :: bm, ns := N, qualname := q, hasDict := true, slotNames := sn, subclasses := sub, abstract := ab, collection := col, hasDel := false } := by unfold clsIn; rw [hC] <;> rfl
  refine Att.call_fn (binds := [("self", .ref x), ("spot", v)]) X hlim ho hcd hroom (BindsTo.of_eq (by first | rfl | with_unfolding_all rfl)) (by first | rfl | decide | with_unfolding_all rfl) (fun s₁ IC => ?_) rfl rfl rfl
  obtain ⟨h₁, tk₁, rfl⟩ := IC.toInCall.same
  have k : ∀ b o, s.heap.get? b = some o → h₁.get? b = some o := IC.toInCall.keep
  have hn := IC.toInCall.ns
  have hxL : s.heap.objs.size ≠ x := Nat.ne_of_gt (Heap.lt_size hx)
  have X₁ : K.In h₁ := X.keeps k
  have hx₁ := k _ _ hx
  -- self.by = by
  show wpAny _ _ (execs _ _) _ _ _
  refine wpAny_execs_cons (plainObj_wpAny_Assign_Attribute ?_)
  refine ldC (v := v) hn (by first | rfl | with_unfolding_all rfl | kernel_rfl) (ldC (v := .ref x) hn (by first | rfl | with_unfolding_all rfl | kernel_rfl) ?_)
  refine set_plain X₁ (ox := excO C t0) (od := none) ⟨hx₁, rfl, rfl, trivial⟩ T.sa ?_
  refine exc_osa X₁ hx₁ hcl (show refsVE (.ref C :: bm) = true from hbm) rfl T.noN (fun h₃ tk₃ dx k₃ dn dne hx₃ hn₃ => ?_)
  show wpAny _ _ (execs _ _) _ _ _
  have z : s.heap.objs.size < h₁.objs.size := hn.lt
  exact wpAny_execs_nil (hq h₃ tk₃ dx ⟨fun b o hb e => k₃ b o hb (k b o e), hx₃, Nat.le_of_lt (Nat.lt_of_lt_of_le z dn), dne, hn₃⟩)
theorem spot_made (T : SpotTxt K mg C fI) {v : Value} (X : K.In s.heap) (hlim : s.heap.NoLimit) (hroom : A.depth + 1 < recursionLimit)
    (hq : ∀ h' tk e d, OwnMade s.heap h' e C d v → R (.ok (.ret (.ref e))) { s with heap := h', toks := tk }) :
    codeAny (model prog w) A (.call (.ref C) ⟨[v], []⟩) R s := by
  obtain ⟨nm, q, N, bs, bm, sn, sub, ab, col, dd, k0, k1, k2, k3, k5, hC, hbm⟩ := T.cls
  obtain ⟨hp, g, dr, tk, os⟩ := s
  have k : ∀ b o, hp.get? b = some o → ((hp.push (kdv_tup [v])).push (excO C hp.objs.size)).get? b = some o := fun b o e => Heap.get?_push_of_some _ (Heap.get?_push_of_some _ e)
  have hget : ((hp.push (kdv_tup [v])).push (excO C hp.objs.size)).get? (hp.objs.size + 1) = some (excO C hp.objs.size) := by heap_get
  have hnx : K.lookup (hp.objs.size + 1) = none := by
    cases e : K.lookup (hp.objs.size + 1) with
    | none => rfl
    | some o =>
      have z : hp.get? (hp.objs.size + 1) = some o := X _ _ e
      exact absurd (Nat.lt_of_succ_lt (Heap.lt_size z)) (Nat.lt_irrefl _)
  refine call_own F.excBase_ValueError (fun X => refsVE_contains X bm hbm) (X _ _ hC) (looks_findIn X T.iC) (fun self => bind_fn X self T.tC) (one_size v) ?_
  refine spot_init (s := ⟨(hp.push (kdv_tup [v])).push (excO C hp.objs.size), g, dr, tk, os⟩) T (X.keeps k) (hlim.keeps k) hget hnx ?_ fun h' tk' dx ⟨k', hx, dn, dne, hns⟩ => ?_
  · show A.depth + 1 < recursionLimit
    exact hroom
  · have old : ∀ b o, hp.get? b = some o → h'.get? b = some o := fun b o e => k' b o (Nat.ne_of_lt (Nat.lt_succ_of_lt (Heap.lt_size e))) (k b o e)
    have z : hp.objs.size + 1 + 1 ≤ dx := by
      first
        | (simpa only [Heap.size_push] using dn)
        | exact dn
        | (have q := dn; rw [Heap.size_push, Heap.size_push] at q; exact q)
    exact ⟨rfl, hq h' tk' (hp.objs.size + 1) dx ⟨old, Nat.le_succ _, ⟨_, _, hx, rfl, rfl, rfl, rfl⟩, Nat.le_trans (Nat.le_trans (Nat.le_succ _) (Nat.le_succ _)) z, dne, hns⟩⟩
end
end TxX
end PySem
namespace L2
open PySem PySem.Spec PyProof.Rows
theorem relO_spot {v : V} {v' : Value} (r : RelV v v') (f : Str) : RelO (List.lookup f [(("spot" : Str), v)]) (if f = "spot" then some v' else none) := by
  by_cases hw : f = "spot"
  · subst hw
    rw [if_pos rfl]
    have q : List.lookup ("spot" : Str) [(("spot" : Str), v)] = some v := by simp [List.lookup]
    rw [q]
    exact r
  · rw [if_neg hw]
    have qw : (f == ("spot" : Str)) = false := by simpa using hw
    have q2 : List.lookup f [(("spot" : Str), v)] = none := by simp [List.lookup, qw]
    rw [q2]
    trivial
section
variable {X : Cx} {C fI : Addr}
def tMkSpot (C : Addr) (ta : TA) : St → Hp → XK → Prop := fun σ H Q => ta σ H fun vs H1 => ∃ v, vs = [v] ∧ ∀ d, H1 d = none → Q (.ref C) (some d) (upd H1 d (.xd [(("spot" : Str), v)]))
theorem pmk_spot {a : Expr} {ta : TA} {p pos : Pos} {k : Nat} (T : PySem.TxX.SpotTxt X.K X.mg C fI) (hr : Room k X.A) (ha : PA X [a] ta) (hg : Gl X "NoText" := by rfl)
    (he : starEach (a :: []) X.env = (false, eval a X.env) :: starEach [] X.env := by rfl) (hpl : (backTo pos (starEach [] X.env)).any (·.1) = false := by rfl) :
    PMk X (.Call (.Name "NoText" p) [a] [] pos) (tMkSpot C ta) := by
  intro pins s σ H Q I h
  refine wpAny_Call_Name_kw (ld_glob I hg T.gC ?_)
  refine PySem.W.callWith_K (h₀ := X.base) I.ok.mod.kin T.kC (thn (ha.run pos pins s σ H _ I h) fun us s1 hh => ?_) he hpl
  obtain ⟨vs, H1, I1, r1, v, ev, q1⟩ := hh
  subst ev
  refine ⟨I1.kIn, ?_⟩
  cases r1 with
  | cons rv rn =>
    rename_i v' us'
    cases rn
    show wpAny _ _ (call (.ref C) [v']) _ _ _
    have hlim := I1.nolimit
    obtain ⟨hp, g, dr, tk, os⟩ := s1
    refine wpAny_call (PySem.TxX.spot_made T I1.kIn hlim (by have := hr.dp; omega) fun h' tk' e d M => ?_)
    show MkP X pins σ Q (.ref e) ⟨h', g, dr, tk', os⟩
    obtain ⟨oe, fv, hoe, hc, hd, hdat, h1⟩ := M.obj
    have hns := M.ns
    obtain ⟨G', g1, g2⟩ := restrict h' fun b => decide (b ≠ e)
    have gk : ∀ b, b ≠ e → G'.get? b = h'.get? b := fun b hb => g1 b (decide_eq_true hb)
    have ge : G'.get? e = none := g2 e (by simp)
    have old : ∀ b o, hp.get? b = some o → G'.get? b = some o := fun b o q => (gk b (Nat.ne_of_lt (Nat.lt_of_lt_of_le (Heap.lt_size q) M.new))).trans (M.keep b o q)
    have ob : ObjOk X.prog X.w (upd H1 d (.xd [(("spot" : Str), v)])) G' d (.xd [(("spot" : Str), v)]) :=
      ⟨_, hns.at (fun o q => (gk d M.dne).trans q), fun f => relO_spot rv f⟩
    have J : Inv X pins σ (upd H1 d (.xd [(("spot" : Str), v)])) ⟨G', g, dr, tk', os⟩ := I1.laid (t' := tk') old M.dbig ob
    refine ⟨e, oe, fv, ⟨G', g, dr, tk', os⟩, _, .ref C, some d, rfl, J, fun b o q => ?_, ge, hoe, ⟨hc, hd⟩, hdat, h1, ?_, rfl, I1.bare, raises_own T.exC T.tyC, q1 d (I1.hok.fresh M.dbig)⟩
    · by_cases hb : b = e
      · have q' : G'.get? b = some o := q
        rw [hb, ge] at q'; cases q'
      · exact (gk b hb).symm.trans q
    · rw [upd_ne (Ne.symm M.dne)]
      exact I1.hok.fresh M.new
end
end L2
namespace L2.HW
open PySem PySem.Spec PyProof.Rows
def exoB (K : PySem.W.Frag) (C : Addr) : Bool := match K.lookup C with
  | some ⟨.type "type", _, .cls cd, sl⟩ => (match cd.mro, sl.toList with
    | .ref C' :: bm, [_, _, _, _, some (.builtin n), _] => C' == C && n == "ValueError.__new__" && !cd.hasDel && cd.hasDict && PySem.HandSPX.refsVE bm
    | _, _ => false)
  | _ => false
theorem exo_of {K : PySem.W.Frag} {C : Addr} (q : exoB K C = true) : ∃ nm q N bs bm sn sub ab col dd k0 k1 k2 k3 k5, K.lookup C = some (excClassObj nm q C N bs bm true sn sub ab col dd k0 k1 k2 k3 k5 "ValueError.__new__") ∧ PySem.HandSPX.refsVE bm = true := by
  unfold exoB at q
  split at q
  · rename_i dd cd sl ho
    split at q
    · rename_i C' bm k0 k1 k2 k3 n k5 hm hs
      simp only [Bool.and_eq_true, beq_iff_eq, Bool.not_eq_true'] at q
      obtain ⟨⟨⟨⟨rfl, rfl⟩, hdel⟩, hdc⟩, ht⟩ := q
      obtain ⟨nm, bs, mro, ns, qn, hd, sn, sub, ab, col, del⟩ := cd
      dsimp only at hm hdel hdc
      subst hm hdel hdc
      have hsl : sl = #[k0, k1, k2, k3, some (.builtin "ValueError.__new__"), k5] := by
        obtain ⟨l⟩ := sl
        simp only at hs
        rw [hs]
      subst hsl
      exact ⟨nm, qn, ns, bs, bm, sn, sub, ab, col, dd, k0, k1, k2, k3, k5, ho, ht⟩
    · cases q
  · cases q
abbrev nTx : Str := "NoText"
def spotB (K : PySem.W.Frag) : Bool :=
  let C := He.ga K nTx
  let f := He.ma K C "__init__"
  He.Fa.ok K (.glo nTx) && (exoB K C && (decide (PySem.W.findIn K (.ref C) "__setattr__" = some (some (.builtin "object.__setattr__"))) && (decide (PySem.W.findIn K (.ref C) "__getattribute__" = some (some (.builtin "BaseException.__getattribute__"))) &&
  (decide (PySem.W.findIn K (.ref C) "__getattr__" = some none) && (decide (PySem.W.findIn K (.ref C) "spot" = some none) && (decide (PySem.W.findIn K (.ref C) "__init__" = some (some (.ref f))) && (decide (PySem.W.typeIn K (.ref f) = some (.type "function")) &&
  (PySem.W.keepIn K (.ref C) && (decide (PySem.W.subIn K (.ref C) (.type "BaseException") = some true) && (decide (PySem.W.typeIn K (.ref C) = some (.type "type")) && (PySem.W.hasDictIn K C && decide (PySem.W.exmOne K (.ref C) (.ref C) = some true))))))))))))
def SpotAt (st : Stmt) : Prop := ∃ p1 p2 q1 q2 q3 q4, defArgs st = PySem.TxX.iA p1 p2 ∧ defBody st = PySem.TxX.iB q1 q2 q3 q4 ∧ defScope st = PySem.TxX.iS
def TxtF (K : PySem.W.Frag) (mg : Str → Option Value) : Prop := ∃ C fI, PySem.TxX.SpotTxt K mg C fI
theorem txt_of {K : PySem.W.Frag} {mg : Str → Option Value} {h : Heap} {st : Stmt} {fd : FuncData} (X : K.In h) (G : h.Ns mainGlobals mg) (b : spotB K = true)
    (F : FunD K "__init__" "NoText.__init__" (defArgs st) (defBody st) (defScope st) [] [] (He.ma K (He.ga K nTx) "__init__") fd) (S : SpotAt st) : TxtF K mg := by
  obtain ⟨p1, p2, q1, q2, q3, q4, e1, e2, e3⟩ := S
  obtain ⟨oc, od, dV, kV, doc, pm, an, cdv, ct, osl, hfd, lk, hcd, dfl, _⟩ := F.ex
  unfold spotB at b
  simp only [Bool.and_eq_true, decide_eq_true_eq] at b
  obtain ⟨b1, b2, b3, b4, b5, b6, b7, b8, b9, b10, b11, b12, b13⟩ := b
  have dv : dV = .none := by
    rcases dfl with ⟨_, h⟩ | ⟨h, _⟩
    · exact h
    · exact absurd rfl h
  subst dv
  refine ⟨_, _, He.glo_ok X G b1, exo_of b2, b3, b4, b5, b6, b7, b8, b9, b10, b11, b12, b13, ⟨oc, od, doc, pm, an, cdv, ct, kV, osl, p1, p2, q1, q2, q3, q4, ?_, hcd⟩⟩
  rw [hfd, e1, e2, e3] at lk
  exact lk
section
variable {X : Cx} {Wx : WX} {k : Nat}
def sRaiseV (x : Str) (fs : En → LH → Res (List Va)) : SFn := fun env L => (fs env L).then env fun ws L1 => match ws with
  | [.d y] => .exc x (some y) env L1
  | _ => .stuck
theorem ss_raiseV {e : Expr} {fs : En → LH → Res (List Va)} {p pos pos2 : Pos} (c : Ctx X Wx k) (F : TxtF X.K X.mg) (ha : SA X Wx [e] fs) (h1 : 1 ≤ k := by decide) (hg : Gl X nTx := by rfl)
    (he : starEach [e] X.env = (false, eval e X.env) :: starEach [] X.env := by rfl) (hpl : (backTo pos (starEach [] X.env)).any (·.1) = false := by rfl) :
    SS X Wx (.Raise (some (.Call (.Name nTx p) [e] [] pos)) none pos2) (sRaiseV nTx fs) := by
  obtain ⟨C, fI, T⟩ := F
  refine PS.imp (ps_raise c.cm c.tk (pmk_spot T (c.rm.mono h1) ha hg he hpl)) ?_
  rintro D σ H ⟨env, L, al, U, cf, h⟩
  refine sseq (R := RVs X) cf h fun vs H1 ws L1 al1 c1 s1 r1 h1 => ?_
  split at h1
  · rename_i y
    obtain ⟨v, rfl, rv⟩ := rps_1 r1
    refine ⟨v, rfl, fun d hd => ?_⟩
    have st := c1.rel.alloc (o := .xd [(("spot" : Str), v)]) hd
    obtain ⟨n1, n2⟩ := c1.rel.fresh hd
    exact h1 (.ref C) (some d) σ _ al1 st (c1.stp st) ⟨C, T.gC, rfl, d, v, rfl, mask_of (by simp [n1, n2]) upd_same, rp_d (st.rp rv)⟩
  · exact h1.elim
@[simp] theorem u_sRaiseV (x : Str) (fs : En → LH → Res (List Va)) (env : En) (L : LH) : sRaiseV x fs env L = (fs env L).then env (fun ws L1 => match ws with
  | [.d y] => .exc x (some y) env L1
  | _ => .stuck) := (rfl)
def eSpot (f : EF) : EF := fun env L => (f env L).bind fun w L1 => match w with
  | .exc c (some y) => if c = nTx then .ok (.d y) L1 else .stuck
  | _ => .stuck
@[simp] theorem u_eSpot (f : EF) (env : En) (L : LH) : eSpot f env L = ((f env L).bind fun w L1 => match w with
  | .exc c (some y) => if c = nTx then .ok (.d y) L1 else .stuck
  | _ => .stuck) := (rfl)
def tSpotX (C : Addr) (te : TE) : TE := fun σ H Q => te σ H fun x H1 => ∃ (a dd : Addr) (v : V), x = .ref a ∧ H1 a = some (exk a C (some dd)) ∧ H1 dd = some (.xd [(("spot" : Str), v)]) ∧ Q v H1
theorem pe_spotX {C fI : Addr} {e : Expr} {te : TE} {pos : Pos} (T : PySem.TxX.SpotTxt X.K X.mg C fI) (he : PE X e te) (hb : attributeBase e "spot" X.env (eval e X.env) = eval e X.env := by rfl) : PE X (.Attribute e "spot" pos) (tSpotX C te) := by
  refine ⟨fun pins s σ H Q I h => ?_⟩
  refine attr_of hb (thn (he.run pins s σ H _ I h) fun u s1 hh => ?_)
  obtain ⟨x, H1, I1, rx, a, dd, v, ex, ha, ea, q⟩ := hh
  subst ex
  obtain rfl : u = Value.ref a := rx
  obtain ⟨⟨oe, vs, g1, g2, g3, g4⟩, _⟩ := I1.hok a _ ha
  have hx : ObjOk X.prog X.w H1 s1.heap dd (.xd [(("spot" : Str), v)]) := I1.hok dd _ ea
  obtain ⟨mA, hns, hr⟩ := hx
  obtain ⟨od, ho, hl⟩ := lookIn_ns hns
  have l : List.lookup ("spot" : Str) [(("spot" : Str), v)] = some v := by simp [List.lookup]
  obtain ⟨u, hu, ru⟩ := RelO.some_of (v := v) (o := mA "spot") (by rw [← l]; exact hr "spot")
  have J : PySem.W.InstAt s1.heap a oe C (some od) := ⟨g1, g2, by unfold PySem.W.notCls; rw [g4], by rw [g3]; exact ho⟩
  exact HandSPX.exc_get I1.kIn J T.ga T.gg T.exC (PySem.W.findObj_own T.hdC T.noN rfl (by rw [hl, hu])) (handed_of ru) ⟨v, H1, I1.tok _, ru, q⟩
theorem se_spot {e : Expr} {f : EF} {pos : Pos} (F : TxtF X.K X.mg) (he : SE X Wx e f) (hb : attributeBase e "spot" X.env (eval e X.env) = eval e X.env := by rfl) : SE X Wx (.Attribute e "spot" pos) (eSpot f) := by
  obtain ⟨C, fI, T⟩ := F
  refine PE.imp (pe_spotX T he hb) ?_
  rintro σ H Q ⟨env, L, al, U, c, q⟩
  refine rseq (R := RV X) c q fun v H1 w L1 al1 c1 s1 r1 q1 => ?_
  split at q1
  · rename_i cn y
    split at q1
    · rename_i hc
      subst hc
      cases r1 with
      | @exc a C' _ _ d h1 h2 =>
        obtain ⟨C2, e1, e2, dd, z, e3, e4, e5⟩ := h2
        cases e2
        subst e3
        have : C = C' := by
          have := T.gC
          rw [e1] at this
          cases this
          rfl
        subst this
        exact ⟨a, dd, z, rfl, (of_mask h1).2, (of_mask e4).2, gok c1.rel q1 (.d e5)⟩
    · exact q1.elim
  · exact q1.elim
end
end L2.HW
namespace L2.HW
open PySem PySem.Spec PyProof.Rows
section
variable {X : Cx} {Wx : WX} {e : Expr} {fs : En → LH → Res (List Va)} {p pos : Pos}
def srcES (fs : En → LH → Res (List Va)) : Srcf := fun env L => (fs env L).bind fun ws L1 => match ws with
  | [.d (.str z)] => .ok (enumV 0 (signsV z), none) L1
  | _ => .stuck
@[simp] theorem u_srcES (env : En) (L : LH) : srcES fs env L = ((fs env L).bind fun ws L1 => match ws with
  | [.d (.str z)] => .ok (enumV 0 (signsV z), none) L1
  | _ => .stuck) := (rfl)
end
def sTryR (i : Nat) (f : SFn) : SFn := fun env L => match f env L with
  | .exc c g env1 L1 => if c ∈ ten ∧ i < env1.length then .rt (.exc c g) L1 else .stuck
  | o => o
@[simp] theorem u_sTryR (i : Nat) (f : SFn) (env : En) (L : LH) : sTryR i f env L = (match f env L with
  | .exc c g env1 L1 => if c ∈ ten ∧ i < env1.length then .rt (.exc c g) L1 else .stuck
  | o => o) := (rfl)
def clsStm (st : Stmt) (j : Nat) : Stmt := match st with
  | .ClassDef _ _ _ body _ _ _ _ _ _ _ => body.getD j (.Pass ⟨0, 0, 0, 0⟩)
  | _ => .Pass ⟨0, 0, 0, 0⟩
def hookB (B : PySem.W.Frag → Bool) (n : Nat) (fa : List He.Fa) (fn : List He.DefD) : PySem.W.Hook where
  α := He.AlD × Bool
  obs s := (He.obsDG n fa fn s.heap.get?, B (He.frG s.heap.get? (He.asD s.heap.get? n)))
  val _ := (He.valD fn, true)
  says _ h := ∃ K : PySem.W.Frag, K.In h ∧ He.SaysD fa fn K ∧ B K = true
  of _ s e := ⟨He.frG s.heap.get? (He.asD s.heap.get? n), He.frG_in, congrArg Prod.fst e, congrArg Prod.snd e⟩
  keeps _ _ _ h k := let ⟨K, k1, k2, k3⟩ := h; ⟨K, fun b o e => k b o (k1 b o e), k2, k3⟩
def obB (B : PySem.W.Frag → Bool) (n : Nat) (fa : List He.Fa) (fn : List He.DefD) (s : PySem.W.SharedT) : He.AlD × Bool :=
  (He.obsDG n fa fn (HandSHeadRun.getT s), B (He.frG (HandSHeadRun.getT s) (He.asD (HandSHeadRun.getT s) n)))
theorem obB_eq {B : PySem.W.Frag → Bool} {n : Nat} {fa : List He.Fa} {fn : List He.DefD} (s : PySem.W.SharedT) : obB B n fa fn s = (hookB B n fa fn).obs s.abs := by
  have : HandSHeadRun.getT s = s.abs.heap.get? := funext (HandSHeadRun.getT_eq s)
  unfold obB
  rw [this]
  rfl
end L2.HW
set_option maxHeartbeats 0
namespace L2.HW.R_k56
open PySem PySem.Spec PyProof.Rows L2.HW
abbrev top (i : Nat) : Stmt := PySem.Challenge.pw_hastyways_k56_shapes_written.main.body.getD i (.Pass ⟨0, 0, 0, 0⟩)
def d__law_mixed : He.DefD := ⟨("_law_mixed", none), "_law_mixed", "_law_mixed", defArgs (top 32), defBody (top 32), defScope (top 32), [], []⟩
def d__law_pile : He.DefD := ⟨("_law_pile", none), "_law_pile", "_law_pile", defArgs (top 33), defBody (top 33), defScope (top 33), [], []⟩
def d__law_take : He.DefD := ⟨("_law_take", none), "_law_take", "_law_take", defArgs (top 34), defBody (top 34), defScope (top 34), [], []⟩
def d__law_grown : He.DefD := ⟨("_law_grown", none), "_law_grown", "_law_grown", defArgs (top 41), defBody (top 41), defScope (top 41), [], []⟩
def d__law_order_of : He.DefD := ⟨("_law_order_of", none), "_law_order_of", "_law_order_of", defArgs (top 35), defBody (top 35), defScope (top 35), [], []⟩
def d__law_shape : He.DefD := ⟨("_law_shape", none), "_law_shape", "_law_shape", defArgs (top 40), defBody (top 40), defScope (top 40), [], []⟩
def d__law_text : He.DefD := ⟨("_law_text", none), "_law_text", "_law_text", defArgs (top 47), defBody (top 47), defScope (top 47), [], []⟩
def d_is_whole : He.DefD := ⟨("is_whole", none), "is_whole", "is_whole", defArgs (top 13), defBody (top 13), defScope (top 13), [], []⟩
def d_is_place : He.DefD := ⟨("is_place", none), "is_place", "is_place", defArgs (top 14), defBody (top 14), defScope (top 14), [], []⟩
def d_is_pair : He.DefD := ⟨("is_pair", none), "is_pair", "is_pair", defArgs (top 16), defBody (top 16), defScope (top 16), [], []⟩
def d_reached : He.DefD := ⟨("reached", none), "reached", "reached", defArgs (top 17), defBody (top 17), defScope (top 17), [], []⟩
def d_has_round : He.DefD := ⟨("has_round", none), "has_round", "has_round", defArgs (top 18), defBody (top 18), defScope (top 18), [], []⟩
def d_is_right_shape : He.DefD := ⟨("is_right_shape", none), "is_right_shape", "is_right_shape", defArgs (top 19), defBody (top 19), defScope (top 19), [], []⟩
def d_look_at_shape : He.DefD := ⟨("look_at_shape", none), "look_at_shape", "look_at_shape", defArgs (top 20), defBody (top 20), defScope (top 20), [], []⟩
def d_rows_text : He.DefD := ⟨("rows_text", none), "rows_text", "rows_text", defArgs (top 24), defBody (top 24), defScope (top 24), [], []⟩
def d_shape_text : He.DefD := ⟨("shape_text", none), "shape_text", "shape_text", defArgs (top 25), defBody (top 25), defScope (top 25), [], []⟩
def d_number_read : He.DefD := ⟨("number_read", none), "number_read", "number_read", defArgs (top 26), defBody (top 26), defScope (top 26), [], []⟩
def d_row_read : He.DefD := ⟨("row_read", none), "row_read", "row_read", defArgs (top 27), defBody (top 27), defScope (top 27), [], []⟩
def d_rows_read : He.DefD := ⟨("rows_read", none), "rows_read", "rows_read", defArgs (top 28), defBody (top 28), defScope (top 28), [], []⟩
def d_read_shape : He.DefD := ⟨("read_shape", none), "read_shape", "read_shape", defArgs (top 29), defBody (top 29), defScope (top 29), [], []⟩
def d__law_pick : He.DefD := ⟨("_law_pick", none), "_law_pick", "_law_pick", defArgs (top 36), defBody (top 36), defScope (top 36), [], []⟩
def d__law_bent : He.DefD := ⟨("_law_bent", none), "_law_bent", "_law_bent", defArgs (top 46), defBody (top 46), defScope (top 46), [], []⟩
def d__law_number_of : He.DefD := ⟨("_law_number_of", none), "_law_number_of", "_law_number_of", defArgs (top 44), defBody (top 44), defScope (top 44), [], []⟩
def d__law_row_of : He.DefD := ⟨("_law_row_of", none), "_law_row_of", "_law_row_of", defArgs (top 45), defBody (top 45), defScope (top 45), [], []⟩
def d__law_whole : He.DefD := ⟨("_law_whole", none), "_law_whole", "_law_whole", defArgs (top 37), defBody (top 37), defScope (top 37), [], []⟩
def d__law_is_from : He.DefD := ⟨("_law_is_from", none), "_law_is_from", "_law_is_from", defArgs (top 38), defBody (top 38), defScope (top 38), [], []⟩
def d__law_is_place : He.DefD := ⟨("_law_is_place", none), "_law_is_place", "_law_is_place", defArgs (top 39), defBody (top 39), defScope (top 39), [], []⟩
def d__law_once : He.DefD := ⟨("_law_once", none), "_law_once", "_law_once", defArgs (top 31), defBody (top 31), defScope (top 31), [], []⟩
def d__law_is_shape : He.DefD := ⟨("_law_is_shape", none), "_law_is_shape", "_law_is_shape", defArgs (top 42), defBody (top 42), defScope (top 42), [], []⟩
def d__law_due : He.DefD := ⟨("_law_due", none), "_law_due", "_law_due", defArgs (top 48), defBody (top 48), defScope (top 48), [], []⟩
def d__law_word_of : He.DefD := ⟨("_law_word_of", none), "_law_word_of", "_law_word_of", defArgs (top 43), defBody (top 43), defScope (top 43), [], []⟩
def d__law_both : He.DefD := ⟨("_law_both", none), "_law_both", "_law_both", defArgs (top 49), defBody (top 49), defScope (top 49), [], []⟩
def d_law : He.DefD := ⟨("law", none), "law", "law", defArgs (top 50), defBody (top 50), defScope (top 50), [], []⟩
abbrev st_NoText_init : Stmt := clsStm (top 10) 0
def d_NoText_init : He.DefD := ⟨("NoText", some "__init__"), "__init__", "NoText.__init__", defArgs st_NoText_init, defBody st_NoText_init, defScope st_NoText_init, [], []⟩
def fnl0 : List He.DefD := [d__law_mixed, d__law_pile, d__law_take, d__law_grown, d__law_order_of, d__law_shape, d__law_text, d_is_whole, d_is_place, d_is_pair, d_reached, d_has_round, d_is_right_shape, d_look_at_shape, d_rows_text, d_shape_text, d_number_read, d_row_read, d_rows_read, d_read_shape, d__law_pick, d__law_bent, d__law_number_of, d__law_row_of, d__law_whole, d__law_is_from, d__law_is_place, d__law_once, d__law_is_shape, d__law_due]
def fnl1 : List He.DefD := [d__law_word_of, d__law_both, d_law, d_NoText_init]
def fnl : List He.DefD := fnl0 ++ fnl1
def fal0 : List He.Fa := [.glo "_law_mixed", .glo "_law_pile", .glo "_law_take", .glo "_law_grown", .glo "_law_order_of", .glo "_law_shape", .glo "_law_text", .glo "is_whole", .glo "is_place", .glo "is_pair", .glo "reached", .glo "has_round", .glo "is_right_shape", .glo "look_at_shape", .glo "rows_text", .glo "shape_text", .glo "number_read", .glo "row_read", .glo "rows_read", .glo "read_shape", .glo "_law_pick", .glo "_law_bent", .glo "_law_number_of", .glo "_law_row_of", .glo "_law_whole", .glo "_law_is_from", .glo "_law_is_place", .glo "_law_once", .glo "_law_is_shape", .glo "_law_due"]
def fal1 : List He.Fa := [.glo "_law_word_of", .glo "_law_both", .glo "law", .free "ValueError", .free "all", .free "any", .free "bool", .free "enumerate", .free "int", .free "isinstance", .free "len", .free "max", .free "min", .free "range", .free "repr", .free "str", .free "tuple", .free "zip", .str "FIGURES" "0123456789", .int "MOST_FIGURES" (30), .glo "NoShape", .exc "NoShape"]
def fal : List He.Fa := fal0 ++ fal1
def loo0 : List PySem.Str := ["HasteError", "NoWeb", "NoMoment", "NoNumber", "NoRoad", "NoCut", "NoShape", "NotTree", "NotRoad", "NoText", "Unlike", "is_whole", "is_place", "is_pair", "reached", "has_round", "is_right_shape", "look_at_shape", "FIGURES", "MOST_FIGURES", "rows_text", "shape_text", "number_read", "row_read", "rows_read", "read_shape", "_law_once", "_law_mixed", "_law_pile", "_law_take"]
def loo1 : List PySem.Str := ["_law_order_of", "_law_pick", "_law_whole", "_law_is_from", "_law_is_place", "_law_shape", "_law_grown", "_law_is_shape", "_law_word_of", "_law_number_of", "_law_row_of", "_law_bent", "_law_text", "_law_due", "_law_both"]
def loo : List PySem.Str := loo0 ++ loo1
abbrev R : PySem.W.OpenRow := PySem.W.OpenLaw.row PySem.Challenge.rw_hastyways_k56_shapes_written
abbrev BB (K : PySem.W.Frag) : Bool := excAllB K && spotB K
abbrev hk : PySem.W.Hook := hookB BB 5 fal fnl
def ob (s : PySem.W.SharedT) : He.AlD × Bool := obB BB 5 fal fnl s
theorem ob_eq (s : PySem.W.SharedT) : ob s = hk.obs s.abs := obB_eq s
theorem run (w : World) : HandSHeadRun.RunEq R (PySem.W.view R.prog [50]) hk ob 8000 loo w := by
  intro os
  kernel_rfl
end L2.HW.R_k56
set_option maxHeartbeats 200000
namespace L2.HW
open PySem PySem.Spec PyProof.Rows
@[simp] theorem u_eVar (i : Nat) env L : eVar i env L = (match env[i]? with
  | some (some w) => .ok w L
  | _ => .stuck) := by first | exact (rfl) | (unfold eVar; exact (rfl))
@[simp] theorem u_eC (x : PyData) x0 L : eC x x0 L = (.ok (.d x) L) := by first | exact (rfl) | (unfold eC; exact (rfl))
@[simp] theorem u_eOp (g : Op2) (a b : EF) env L : eOp g a b env L = ((a env L).bind fun w L1 => (b env L1).bind fun u L2 => g w u L2) := by first | exact (rfl) | (unfold eOp; exact (rfl))
@[simp] theorem u_tVal (f : EF) env L : tVal f env L = ((f env L).bind fun w L1 => match w with
  | .d (.bool b) => .ok b L1
  | _ => .stuck) := by first | exact (rfl) | (unfold tVal; exact (rfl))
@[simp] theorem u_tAndF (f g : En → LH → Res Bool) env L : tAndF f g env L = ((f env L).bind fun b L1 => if b then g env L1 else .ok false L1) := by first | exact (rfl) | (unfold tAndF; exact (rfl))
@[simp] theorem u_tOrF (f g : En → LH → Res Bool) env L : tOrF f g env L = ((f env L).bind fun b L1 => if b then .ok true L1 else g env L1) := by first | exact (rfl) | (unfold tOrF; exact (rfl))
@[simp] theorem u_tNotF (f : En → LH → Res Bool) env L : tNotF f env L = ((f env L).bind fun b L1 => .ok (!b) L1) := by first | exact (rfl) | (unfold tNotF; exact (rfl))
@[simp] theorem u_eIf (t : En → LH → Res Bool) (f g : EF) env L : eIf t f g env L = ((t env L).bind fun b L1 => if b then f env L1 else g env L1) := by first | exact (rfl) | (unfold eIf; exact (rfl))
@[simp] theorem u_eAnd (f g : EF) env L : eAnd f g env L = ((tVal f env L).bind fun b L1 => if b then g env L1 else .ok (.d (.bool false)) L1) := by first | exact (rfl) | (unfold eAnd; exact (rfl))
@[simp] theorem u_eOr (f g : EF) env L : eOr f g env L = ((tVal f env L).bind fun b L1 => if b then .ok (.d (.bool true)) L1 else g env L1) := by first | exact (rfl) | (unfold eOr; exact (rfl))
@[simp] theorem u_eNot (f : EF) env L : eNot f env L = ((tVal f env L).bind fun b L1 => .ok (.d (.bool (!b))) L1) := by first | exact (rfl) | (unfold eNot; exact (rfl))
@[simp] theorem u_aNil x0 L : aNil x0 L = (.ok [] L) := by first | exact (rfl) | (unfold aNil; exact (rfl))
@[simp] theorem u_aCons (f : EF) (g : En → LH → Res (List Va)) env L : aCons f g env L = ((f env L).bind fun w L1 => (g env L1).bind fun ws L2 => .ok (w :: ws) L2) := by first | exact (rfl) | (unfold aCons; exact (rfl))
@[simp] theorem u_eDat (g : En → LH → Res Ob) env L : eDat g env L = ((g env L).bind fun o L1 => match o.va with
  | some w => .ok w L1
  | none => .stuck) := by first | exact (rfl) | (unfold eDat; exact (rfl))
@[simp] theorem u_eNew (g : En → LH → Res Ob) env L : eNew g env L = ((g env L).bind fun o L1 => .ok (.loc L1.length) (L1 ++ [some o])) := by first | exact (rfl) | (unfold eNew; exact (rfl))
@[simp] theorem u_opAdd w u L : opAdd w u L = (match w, u with
  | .d (.int i), .d (.int j) => .ok (.d (.int (i + j))) L
  | .d (.str a), .d (.str b) => if a.length + b.length ≤ sizeLine then .ok (.d (.str (a ++ b))) L else .stuck
  | .d (.tuple xs), .d (.tuple ys) => if xs.length + ys.length ≤ sizeLine then .ok (.d (.tuple (xs ++ ys))) L else .stuck
  | w, u => match w.items L, u.items L with
    | some ws, some us => if ws.length + us.length ≤ sizeLine then match datas ws, datas us with
      | some xs, some ys => .ok (.d (.list (xs ++ ys))) L
      | _, _ => .stuck
      else .stuck
    | _, _ => .stuck) := by first | exact (rfl) | (unfold opAdd; exact (rfl))
@[simp] theorem u_opI (g : Int → Int → Int) w u L : opI g w u L = (match w, u with
  | .d (.int i), .d (.int j) => .ok (.d (.int (g i j))) L
  | _, _ => .stuck) := by first | exact (rfl) | (unfold opI; exact (rfl))
@[simp] theorem u_opIC (C : Int → Int → Bool) (g : Int → Int → Int) w u L : opIC C g w u L = (match w, u with
  | .d (.int i), .d (.int j) => if C i j then .ok (.d (.int (g i j))) L else .stuck
  | _, _ => .stuck) := by first | exact (rfl) | (unfold opIC; exact (rfl))
@[simp] theorem u_opMul w u L : opMul w u L = (match w, u with
  | .d (.int i), .d (.int j) => if mulC i j then .ok (.d (.int (i * j))) L else .stuck
  | .d (.tuple xs), .d (.int k) => if xs ≠ [] ∧ 2 ≤ k ∧ k ≤ 1000 ∧ xs.length ≤ 1000 then .ok (.d (.tuple (rep k.toNat xs))) L else .stuck
  | w, .d (.int k) => match w.items L with
    | some ws => if -(2 ^ 63) ≤ k ∧ k < 2 ^ 63 ∧ ws.length * k.toNat ≤ sizeLine then match datas ws with
      | some xs => .ok (.d (.list (rep k.toNat xs))) L
      | none => .stuck
      else .stuck
    | none => .stuck
  | _, _ => .stuck) := by first | exact (rfl) | (unfold opMul; exact (rfl))
@[simp] theorem u_opC (g : Int → Int → Bool) w u L : opC g w u L = (match w, u with
  | .d (.int i), .d (.int j) => .ok (.d (.bool (g i j))) L
  | _, _ => .stuck) := by first | exact (rfl) | (unfold opC; exact (rfl))
@[simp] theorem u_opLt w u L : opLt w u L = (match w, u with
  | .d (.int i), .d (.int j) => .ok (.d (.bool (decide (i < j)))) L
  | .d (.tuple xs), .d (.tuple ys) => match intsOf xs, intsOf ys with
    | some ns, some ms => .ok (.d (.bool (HT.lexLt ns ms))) L
    | _, _ => .stuck
  | _, _ => .stuck) := by first | exact (rfl) | (unfold opLt; exact (rfl))
@[simp] theorem u_opEq w u L : opEq w u L = (match w.data L, u.data L with
  | some x, some y => if cmpOk x y then .ok (.d (.bool (PyData.eqv x y))) L else .stuck
  | _, _ => .stuck) := by first | exact (rfl) | (unfold opEq; exact (rfl))
@[simp] theorem u_opNe w u L : opNe w u L = (match w.data L, u.data L with
  | some x, some y => if cmpOk x y then .ok (.d (.bool (!PyData.eqv x y))) L else .stuck
  | _, _ => .stuck) := by first | exact (rfl) | (unfold opNe; exact (rfl))
@[simp] theorem u_opIsN w u L : opIsN w u L = (match u with
  | .d .none => .ok (.d (.bool w.isN)) L
  | _ => .stuck) := by first | exact (rfl) | (unfold opIsN; exact (rfl))
@[simp] theorem u_opNotN w u L : opNotN w u L = (match u with
  | .d .none => .ok (.d (.bool (!w.isN))) L
  | _ => .stuck) := by first | exact (rfl) | (unfold opNotN; exact (rfl))
@[simp] theorem u_opIsB w u L : opIsB w u L = (match w, u with
  | .d (.bool a), .d (.bool b) => .ok (.d (.bool (decide (a = b)))) L
  | _, _ => .stuck) := by first | exact (rfl) | (unfold opIsB; exact (rfl))
@[simp] theorem u_opNotB w u L : opNotB w u L = (match w, u with
  | .d (.bool a), .d (.bool b) => .ok (.d (.bool (!decide (a = b)))) L
  | _, _ => .stuck) := by first | exact (rfl) | (unfold opNotB; exact (rfl))
@[simp] theorem u_eTup (fs : En → LH → Res (List Va)) env L : eTup fs env L = ((fs env L).bind fun ws L1 => if ws.length ≤ sizeLine then .ok (mkTup ws) L1 else .stuck) := by first | exact (rfl) | (unfold eTup; exact (rfl))
@[simp] theorem u_fLst (fs : En → LH → Res (List Va)) env L : fLst fs env L = ((fs env L).bind fun ws L1 => if ws.length ≤ sizeLine then .ok (.lst ws) L1 else .stuck) := by first | exact (rfl) | (unfold fLst; exact (rfl))
@[simp] theorem u_aStar (f : EF) (g : En → LH → Res (List Va)) env L : aStar f g env L = ((f env L).bind fun w L1 => match w.seq L1 with
  | some us => (g env L1).bind fun ws L2 => .ok (us ++ ws) L2
  | none => .stuck) := by first | exact (rfl) | (unfold aStar; exact (rfl))
@[simp] theorem u_opIx w u L : opIx w u L = (match w.dget L u with
  | some (some x) => .ok x L
  | some none => .stuck
  | none => match u with
    | .d (.int i) => match w.seq L with
      | some ws => match atI ws i with
        | some x => .ok x L
        | none => .stuck
      | none => match w with
        | .d (.str z) => if z.length ≤ sizeLine then match atI z.cps.toList i with
          | some c => .ok (.d (.str ⟨#[c]⟩)) L
          | none => .stuck
          else .stuck
        | _ => .stuck
    | _ => .stuck) := by first | exact (rfl) | (unfold opIx; exact (rfl))
@[simp] theorem u_opSl (w : Va) (lo hi : Option Int) (L : LH) : opSl w lo hi L = match w with
  | .d (.tuple xs) => .ok (.d (.tuple (cutA xs lo hi))) L
  | .d (.str z) => if z.length ≤ sizeLine then .ok (.d (.str (cutS z lo hi))) L else .stuck
  | w => match w.items L with
    | some ws => match datas (cutA ws lo hi) with
      | some xs => .ok (.d (.list xs)) L
      | none => .stuck
    | none => .stuck := by unfold opSl; exact (rfl)
@[simp] theorem u_eSl (f : EF) (p q : En → LH → Res (Option Int)) env L : eSl f p q env L = ((f env L).bind fun w L1 => (p env L1).bind fun lo L2 => (q env L2).bind fun hi L3 => opSl w lo hi L3) := by first | exact (rfl) | (unfold eSl; exact (rfl))
@[simp] theorem u_fSl (f : EF) (p q : En → LH → Res (Option Int)) env L : fSl f p q env L = ((f env L).bind fun w L1 => (p env L1).bind fun lo L2 => (q env L2).bind fun hi L3 => match w.items L3 with
  | some ws => .ok (.lst (cutA ws lo hi)) L3
  | none => .stuck) := by first | exact (rfl) | (unfold fSl; exact (rfl))
@[simp] theorem u_fCat (f g : EF) env L : fCat f g env L = ((f env L).bind fun w L1 => (g env L1).bind fun u L2 => match w.items L2, u.items L2 with
  | some ws, some us => if ws.length + us.length ≤ sizeLine then .ok (.lst (ws ++ us)) L2 else .stuck
  | _, _ => .stuck) := by first | exact (rfl) | (unfold fCat; exact (rfl))
@[simp] theorem u_fRep (f g : EF) env L : fRep f g env L = ((f env L).bind fun w L1 => (g env L1).bind fun u L2 => match w.items L2, u with
  | some ws, .d (.int k) => if -(2 ^ 63) ≤ k ∧ k < 2 ^ 63 ∧ ws.length * k.toNat ≤ sizeLine then .ok (.lst (rep k.toNat ws)) L2 else .stuck
  | _, _ => .stuck) := by first | exact (rfl) | (unfold fRep; exact (rfl))
@[simp] theorem u_opIn (neg : Bool) w u L : opIn neg w u L = (match u.dget L w with
  | some o => .ok (.d (.bool (if neg then !o.isSome else o.isSome))) L
  | none => match u, w with
    | .d (.str z), .d (.str s) => match s.cps.toList with
      | [c] => .ok (.d (.bool (if neg then !decide (c ∈ z.cps.toList) else decide (c ∈ z.cps.toList)))) L
      | _ => .stuck
    | .d (.tuple ds), .d x => if flatD x && ds.all flatD then .ok (.d (.bool (if neg then !(ds.any fun z => PyData.eqv z x) else ds.any fun z => PyData.eqv z x))) L else .stuck
    | u, w => match u.data L, w.data L with
      | some (.list ds), some x => if SeqAt.shaped x && SeqAt.shaped (.list ds) then .ok (.d (.bool (if neg then !(ds.any fun z => PyData.eqv z x) else ds.any fun z => PyData.eqv z x))) L else .stuck
      | _, _ => .stuck) := by first | exact (rfl) | (unfold opIn; exact (rfl))
@[simp] theorem u_pNone x0 L : pNone x0 L = (.ok none L) := by first | exact (rfl) | (unfold pNone; exact (rfl))
@[simp] theorem u_pSome (f : EF) env L : pSome f env L = ((f env L).bind fun w L1 => match w with
  | .d (.int i) => .ok (some i) L1
  | _ => .stuck) := by first | exact (rfl) | (unfold pSome; exact (rfl))
@[simp] theorem u_eCallB (g : List Va → LH → Res Va) (fs : En → LH → Res (List Va)) env L : eCallB g fs env L = ((fs env L).bind g) := by first | exact (rfl) | (unfold eCallB; exact (rfl))
@[simp] theorem u_fCallB (g : List Va → LH → Res Ob) (fs : En → LH → Res (List Va)) env L : fCallB g fs env L = ((fs env L).bind g) := by first | exact (rfl) | (unfold fCallB; exact (rfl))
@[simp] theorem u_cLen ws L : cLen ws L = (match ws with
  | [w] => match w with
    | .d (.str z) => if z.length ≤ sizeLine then .ok (.d (.int z.length)) L else .stuck
    | .dct ks => .ok (.d (.int ks.length)) L
    | w => match w.seq L with
      | some us => .ok (.d (.int us.length)) L
      | none => match w with
        | .loc n => match L[n]? with
          | some (some (.di ks)) => .ok (.d (.int ks.length)) L
          | _ => .stuck
        | _ => .stuck
  | _ => .stuck) := by first | exact (rfl) | (unfold cLen; exact (rfl))
@[simp] theorem u_eIsi (T : String) (f : EF) env L : eIsi T f env L = ((f env L).bind fun w L1 => match w.kind L1 with
  | some k => .ok (.d (.bool (isKind k T))) L1
  | none => .stuck) := by first | exact (rfl) | (unfold eIsi; exact (rfl))
@[simp] theorem u_cMin2 ws L : cMin2 ws L = (match ws with
  | [.d (.int i), .d (.int j)] => .ok (.d (.int (if j < i then j else i))) L
  | _ => .stuck) := by first | exact (rfl) | (unfold cMin2; exact (rfl))
@[simp] theorem u_cMax2 ws L : cMax2 ws L = (match ws with
  | [.d (.int i), .d (.int j)] => .ok (.d (.int (if j > i then j else i))) L
  | _ => .stuck) := by first | exact (rfl) | (unfold cMax2; exact (rfl))
@[simp] theorem u_cInt ws L : cInt ws L = (match ws with
  | [.d (.int i)] => .ok (.d (.int i)) L
  | [.d (.bool b)] => .ok (.d (.int (if b then 1 else 0))) L
  | _ => .stuck) := by first | exact (rfl) | (unfold cInt; exact (rfl))
@[simp] theorem u_cStr ws L : cStr ws L = (match ws with
  | [.d (.int i)] => if i.natAbs.log2 < 1920 then .ok (.d (.str (toString i))) L else .stuck
  | _ => .stuck) := by first | exact (rfl) | (unfold cStr; exact (rfl))
@[simp] theorem u_cList ws L : cList ws L = (match ws with
  | [w] => match w.seq L with
    | some us => .ok (.lst us) L
    | none => .stuck
  | _ => .stuck) := by first | exact (rfl) | (unfold cList; exact (rfl))
@[simp] theorem u_cTuple ws L : cTuple ws L = (match ws with
  | [.d (.tuple xs)] => .ok (.d (.tuple xs)) L
  | [w] => match w.items L with
    | some us => .ok (mkTup us) L
    | none => .stuck
  | _ => .stuck) := by first | exact (rfl) | (unfold cTuple; exact (rfl))
@[simp] theorem u_sNil env L : sNil env L = (.nx env L) := by first | exact (rfl) | (unfold sNil; exact (rfl))
@[simp] theorem u_sSeq (f g : SFn) env L : sSeq f g env L = (match f env L with
  | .nx env1 L1 => g env1 L1
  | o => o) := by first | exact (rfl) | (unfold sSeq; exact (rfl))
@[simp] theorem u_sPass : sPass  = sNil := by unfold sPass; exact (rfl)
@[simp] theorem u_sBreak env L : sBreak env L = (.bk env L) := by first | exact (rfl) | (unfold sBreak; exact (rfl))
@[simp] theorem u_sCont env L : sCont env L = (.ct env L) := by first | exact (rfl) | (unfold sCont; exact (rfl))
@[simp] theorem u_sExpr (f : EF) env L : sExpr f env L = ((f env L).then env fun _ L1 => .nx env L1) := by first | exact (rfl) | (unfold sExpr; exact (rfl))
@[simp] theorem u_sRet (f : EF) env L : sRet f env L = ((f env L).then env fun w L1 => .rt w L1) := by first | exact (rfl) | (unfold sRet; exact (rfl))
@[simp] theorem u_sRetN x0 L : sRetN x0 L = (.rt (.d .none) L) := by first | exact (rfl) | (unfold sRetN; exact (rfl))
@[simp] theorem u_sRetF (g : En → LH → Res Ob) env L : sRetF g env L = ((g env L).then env fun o L1 => .rf o L1) := by first | exact (rfl) | (unfold sRetF; exact (rfl))
@[simp] theorem u_sIf (t : En → LH → Res Bool) (f g : SFn) env L : sIf t f g env L = ((t env L).then env fun b L1 => if b then f env L1 else g env L1) := by first | exact (rfl) | (unfold sIf; exact (rfl))
@[simp] theorem u_sSet (i : Nat) (f : EF) env L : sSet i f env L = ((f env L).then env fun w L1 => .nx (env.set i (some w)) L1) := by first | exact (rfl) | (unfold sSet; exact (rfl))
@[simp] theorem u_sAug (i : Nat) (g : Int → Int → Int) (f : EF) env L : sAug i g f env L = (match env[i]? with
  | some (some (.d (.int a))) => (f env L).then env fun w L1 => match w with
    | .d (.int b) => .nx (env.set i (some (.d (.int (g a b))))) L1
    | _ => .stuck
  | _ => .stuck) := by first | exact (rfl) | (unfold sAug; exact (rfl))
@[simp] theorem u_tN (i : Nat) w env L : tN i w env L = (.ok (env.set i (some w)) L) := by first | exact (rfl) | (unfold tN; exact (rfl))
@[simp] theorem u_tgNil ws env L : tgNil ws env L = (match ws with
  | [] => .ok env L
  | _ => .stuck) := by first | exact (rfl) | (unfold tgNil; exact (rfl))
@[simp] theorem u_tgCons (f : Va → En → LH → Res En) (g : List Va → En → LH → Res En) ws env L : tgCons f g ws env L = (match ws with
  | w :: r => (f w env L).bind fun env1 L1 => g r env1 L1
  | [] => .stuck) := by first | exact (rfl) | (unfold tgCons; exact (rfl))
@[simp] theorem u_tTupT (n : Nat) (g : List Va → En → LH → Res En) w env L : tTupT n g w env L = (match w.seq L with
  | some ws => if ws.length = n then g ws env L else .stuck
  | none => .stuck) := by first | exact (rfl) | (unfold tTupT; exact (rfl))
@[simp] theorem u_sAsg (f : EF) (g : Va → En → LH → Res En) env L : sAsg f g env L = ((f env L).then env fun w L1 => match g w env L1 with
  | .ok env1 L2 => .nx env1 L2
  | _ => .stuck) := by first | exact (rfl) | (unfold sAsg; exact (rfl))
@[simp] theorem u_sPar (i j : Nat) (fs : En → LH → Res (List Va)) env L : sPar i j fs env L = ((fs env L).then env fun ws L1 => match ws with
  | [w, u] => .nx ((env.set i (some w)).set j (some u)) L1
  | _ => .stuck) := by first | exact (rfl) | (unfold sPar; exact (rfl))
@[simp] theorem u_sPar3 (i j k : Nat) (fs : En → LH → Res (List Va)) env L : sPar3 i j k fs env L = ((fs env L).then env fun ws L1 => match ws with
  | [w, u, z] => .nx (((env.set i (some w)).set j (some u)).set k (some z)) L1
  | _ => .stuck) := by first | exact (rfl) | (unfold sPar3; exact (rfl))
@[simp] theorem u_tIx (f g : EF) v env L : tIx f g v env L = ((f env L).bind fun w L1 => (g env L1).bind fun u L2 => match w with
  | .loc n => match L2[n]?, u with
    | some (some (.lst ws)), .d (.int i) => match ixN ws.length i with
      | some j => .ok env (L2.set n (some (.lst (ws.set j v))))
      | none => .stuck
    | some (some (.di ks)), .d (.int i) => if ks.length < sizeLine then .ok env (L2.set n (some (.di (aput ks i v)))) else .stuck
    | some (some (.di [])), .d (.tuple xs) => match intsOf xs with
      | some ns => .ok env (L2.set n (some (.dt [(ns, v)])))
      | none => .stuck
    | some (some (.dt ks)), .d (.tuple xs) => match intsOf xs with
      | some ns => if ks.length < sizeLine then .ok env (L2.set n (some (.dt (aput ks ns v)))) else .stuck
      | none => .stuck
    | _, _ => .stuck
  | _ => .stuck) := by first | exact (rfl) | (unfold tIx; exact (rfl))
@[simp] theorem u_srcV (f : EF) env L : srcV f env L = ((f env L).bind fun w L1 => match srcOf w L1 with
  | some p => .ok p L1
  | none => .stuck) := by first | exact (rfl) | (unfold srcV; exact (rfl))
@[simp] theorem u_srcR1 (fs : En → LH → Res (List Va)) env L : srcR1 fs env L = ((fs env L).bind fun ws L1 => match ws with
  | [.d (.int j)] => if -(2 ^ 62) ≤ j ∧ j < 2 ^ 62 then .ok (rngV 0 j.toNat, none) L1 else .stuck
  | _ => .stuck) := by first | exact (rfl) | (unfold srcR1; exact (rfl))
@[simp] theorem u_srcR2 (fs : En → LH → Res (List Va)) env L : srcR2 fs env L = ((fs env L).bind fun ws L1 => match ws with
  | [.d (.int i), .d (.int j)] => if -(2 ^ 62) ≤ i ∧ i < 2 ^ 62 ∧ -(2 ^ 62) ≤ j ∧ j < 2 ^ 62 then .ok (rngV i (j - i).toNat, none) L1 else .stuck
  | _ => .stuck) := by first | exact (rfl) | (unfold srcR2; exact (rfl))
@[simp] theorem u_eCall (F : Fn) (fs : En → LH → Res (List Va)) env L : eCall F fs env L = ((fs env L).bind F) := by first | exact (rfl) | (unfold eCall; exact (rfl))
@[simp] theorem u_fCall (F : FnF) (fs : En → LH → Res (List Va)) env L : fCall F fs env L = ((fs env L).bind F) := by first | exact (rfl) | (unfold fCall; exact (rfl))
@[simp] theorem u_eMeth (chk : LH → Va → Bool) (g : Va → List Va → LH → Res Va) (fo : EF) (fs : En → LH → Res (List Va)) env L : eMeth chk g fo fs env L = ((fo env L).bind fun w L1 => if chk L1 w then (fs env L1).bind fun ws L2 => g w ws L2 else .stuck) := by first | exact (rfl) | (unfold eMeth; exact (rfl))
@[simp] theorem u_mAppend w ws L : mAppend w ws L = (match w, ws with
  | .loc n, [v] => match L[n]? with
    | some (some (.lst us)) => if us.length < sizeLine then .ok (.d .none) (L.set n (some (.lst (us ++ [v])))) else .stuck
    | _ => .stuck
  | _, _ => .stuck) := by first | exact (rfl) | (unfold mAppend; exact (rfl))
@[simp] theorem u_mInsert w ws L : mInsert w ws L = (match w, ws with
  | .loc n, [.d (.int i), v] => match L[n]? with
    | some (some (.lst us)) => if us.length < sizeLine ∧ 0 ≤ i ∧ i < 2 ^ 63 then .ok (.d .none) (L.set n (some (.lst (us.take i.toNat ++ [v] ++ us.drop i.toNat)))) else .stuck
    | _ => .stuck
  | _, _ => .stuck) := by first | exact (rfl) | (unfold mInsert; exact (rfl))
@[simp] theorem u_mPop0 w ws L : mPop0 w ws L = (match w, ws with
  | .loc n, [] => match L[n]? with
    | some (some (.lst us)) => match us[us.length - 1]? with
      | some u => .ok u (L.set n (some (.lst us.dropLast)))
      | none => .stuck
    | _ => .stuck
  | _, _ => .stuck) := by first | exact (rfl) | (unfold mPop0; exact (rfl))
@[simp] theorem u_eNeg (f : EF) env L : eNeg f env L = ((f env L).bind fun w L1 => match w with
  | .d (.int i) => .ok (.d (.int (-i))) L1
  | _ => .stuck) := by first | exact (rfl) | (unfold eNeg; exact (rfl))
open Classical in
@[simp] theorem u_cRepr ws L : cRepr ws L = (match ws with
  | [w] => match w.data L with
    | some x => if okShow x then .ok (.d (.str x.shown)) L else .stuck
    | none => .stuck
  | _ => .stuck) := by first | exact (rfl) | (unfold cRepr; exact (rfl))
@[simp] theorem u_eRev (f : EF) env L : eRev f env L = ((f env L).bind fun w L1 => match w.data L1 with
  | some (.list xs) => .ok (.d (.list xs.reverse)) L1
  | some (.tuple xs) => .ok (.d (.tuple xs.reverse)) L1
  | _ => .stuck) := by first | exact (rfl) | (unfold eRev; exact (rfl))
@[simp] theorem u_isLs L w : isLs L w = (match w with
  | .d (.list _) => true
  | .loc n => match L[n]? with
    | some (some (.lst _)) => true
    | _ => false
  | _ => false) := by first | exact (rfl) | (unfold isLs; exact (rfl))
@[simp] theorem u_tTrue x0 L : tTrue x0 L = (.ok true L) := by first | exact (rfl) | (unfold tTrue; exact (rfl))
@[simp] theorem u_srcE (k0 : Int) (fs : En → LH → Res (List Va)) env L : srcE k0 fs env L = ((fs env L).bind fun ws L1 => match ws with
  | [w] => match srcOf w L1 with
    | some p => .ok (enumV k0 p.1, p.2) L1
    | none => .stuck
  | _ => .stuck) := by first | exact (rfl) | (unfold srcE; exact (rfl))
@[simp] theorem u_sRaise (x : Str) env L : sRaise x env L = (.exc x none env L) := by first | exact (rfl) | (unfold sRaise; exact (rfl))
@[simp] theorem u_fDisp (ps : List (EF × EF)) env L : fDisp ps env L = (match dsp ps env L with
  | .ok kvs L1 => if kvs.length ≤ 15 then .ok (.di (mergeA [] kvs)) L1 else .stuck
  | _ => .stuck) := by first | exact (rfl) | (unfold fDisp; exact (rfl))
@[simp] theorem u_sAugIx (op : Int → Int → Int) (f g e : EF) env L : sAugIx op f g e env L = ((f env L).then env fun w L1 => (g env L1).then env fun u L2 => match w, u with
  | .loc n, .d (.int k) => match L2[n]? with
    | some (some (.lst ws)) => if 0 ≤ k then match ws[k.toNat]? with
      | some (.d (.int a)) => (e env L2).then env fun v L3 => match v, L3[n]? with
        | .d (.int b), some (some (.lst ws3)) => if k.toNat < ws3.length then .nx env (L3.set n (some (.lst (ws3.set k.toNat (.d (.int (op a b))))))) else .stuck
        | _, _ => .stuck
      | _ => .stuck
      else .stuck
    | _ => .stuck
  | _, _ => .stuck) := by first | exact (rfl) | (unfold sAugIx; exact (rfl))
@[simp] theorem u_eGet1 (f g : EF) env L : eGet1 f g env L = ((f env L).bind fun w L1 => if isD L1 w then (g env L1).bind fun u L2 => match w.dget L2 u with
  | some (some x) => .ok x L2
  | some none => .ok (.d .none) L2
  | none => .stuck
  else .stuck) := by first | exact (rfl) | (unfold eGet1; exact (rfl))
@[simp] theorem u_eGet2 (f g h : EF) env L : eGet2 f g h env L = ((f env L).bind fun w L1 => if isD L1 w then (g env L1).bind fun u L2 => (h env L2).bind fun z L3 => match w.dget L3 u with
  | some (some x) => .ok x L3
  | some none => .ok z L3
  | none => .stuck
  else .stuck) := by first | exact (rfl) | (unfold eGet2; exact (rfl))
@[simp] theorem u_isD L w : isD L w = (match w with
  | .dct _ => true
  | .loc n => match L[n]? with
    | some (some (.di _)) => true
    | some (some (.dt _)) => true
    | _ => false
  | _ => false) := by first | exact (rfl) | (unfold isD; exact (rfl))
@[simp] theorem u_srcIt (i : Nat) env L : srcIt i env L = (match env[i]? with
  | some (some (.loc n)) => match L[n]? with
    | some (some (.di kvs)) => .ok (itemsV kvs, some n) L
    | _ => .stuck
  | _ => .stuck) := by first | exact (rfl) | (unfold srcIt; exact (rfl))
@[simp] theorem u_fSortIt (i : Nat) env L : fSortIt i env L = (match env[i]? with
  | some (some (.loc n)) => match L[n]? with
    | some (some (.di kvs)) => match intKvs kvs with
      | some ks => .ok (.lst (((sortP ks).map fun q => PyData.tuple [.int q.1, .int q.2]).map Va.d)) L
      | none => .stuck
    | _ => .stuck
  | _ => .stuck) := by first | exact (rfl) | (unfold fSortIt; exact (rfl))
open Classical in
@[simp] theorem u_cMin1X ws L : cMin1X ws L = (one ws L fun us => match vaInts us with
  | some ns => match minI ns with
    | some m => .ok (.d (.int m)) L
    | none => .stuck
  | none => match datas us with
    | some (x :: r) => if PySem.W.AlikeAll (x :: r) ∧ PyData.depthAll (x :: r) ≤ 60 then .ok (.d (PySem.W.minD x r)) L else .stuck
    | _ => .stuck) := by first | exact (rfl) | (unfold cMin1X; exact (rfl))
open Classical in
@[simp] theorem u_eMinDef (fs : En → LH → Res (List Va)) (g : EF) env L : eMinDef fs g env L = ((fs env L).bind fun ws L1 => (g env L1).bind fun z L2 => one ws L2 fun us => match datas us with
  | some [] => .ok z L2
  | some (x :: r) => if PySem.W.AlikeAll (x :: r) ∧ PyData.depthAll (x :: r) ≤ 60 then .ok (.d (PySem.W.minD x r)) L2 else .stuck
  | none => .stuck) := by first | exact (rfl) | (unfold eMinDef; exact (rfl))
@[simp] theorem u_fLstR1 (f : EF) env L : fLstR1 f env L = ((f env L).bind fun w L1 => match w with
  | .d (.int n) => if RgOk 0 n then .ok (.lst ((rngD 0 n.toNat).map Va.d)) L1 else .stuck
  | _ => .stuck) := by first | exact (rfl) | (unfold fLstR1; exact (rfl))
@[simp] theorem u_fLstR2 (f g : EF) env L : fLstR2 f g env L = ((f env L).bind fun w L1 => (g env L1).bind fun u L2 => match w, u with
  | .d (.int a), .d (.int b) => if RgOk a b then .ok (.lst ((rngD a (b - a).toNat).map Va.d)) L2 else .stuck
  | _, _ => .stuck) := by first | exact (rfl) | (unfold fLstR2; exact (rfl))
@[simp] theorem u_eTupR1 (f : EF) env L : eTupR1 f env L = ((f env L).bind fun w L1 => match w with
  | .d (.int n) => if RgOk 0 n then .ok (.d (.tuple (rngD 0 n.toNat))) L1 else .stuck
  | _ => .stuck) := by first | exact (rfl) | (unfold eTupR1; exact (rfl))
@[simp] theorem u_eTupR2 (f g : EF) env L : eTupR2 f g env L = ((f env L).bind fun w L1 => (g env L1).bind fun u L2 => match w, u with
  | .d (.int a), .d (.int b) => if RgOk a b then .ok (.d (.tuple (rngD a (b - a).toNat))) L2 else .stuck
  | _, _ => .stuck) := by first | exact (rfl) | (unfold eTupR2; exact (rfl))
@[simp] theorem u_eIsE (x : Str) (f : EF) env L : eIsE x f env L = ((f env L).bind fun w L1 => match w with
  | .exc c _ => if c ∈ ten then .ok (.d (.bool (isErr c x || decide (x = "ValueError")))) L1 else .stuck
  | .d .none => .ok (.d (.bool false)) L1
  | _ => .stuck) := by first | exact (rfl) | (unfold eIsE; exact (rfl))
@[simp] theorem u_sTry (i j : Nat) (f : SFn) env L : sTry i j f env L = (match f env L with
  | .exc c g env1 L1 => if c ∈ ten ∧ i < env1.length then .nx ((env1.set j (some (.exc c g))).set i none) L1 else .stuck
  | o => o) := by first | exact (rfl) | (unfold sTry; exact (rfl))
@[simp] theorem u_srcZ (fs : En → LH → Res (List Va)) env L : srcZ fs env L = ((fs env L).bind fun ws L1 => match ws with
  | [w, u] => match srcOf w L1, srcOf u L1 with
    | some (xs, none), some (ys, none) => match w, u with
      | .d (.list _), .d (.list _) => .ok (zipV xs ys, none) L1
      | .d (.tuple _), .d (.tuple _) => .ok (zipV xs ys, none) L1
      | _, _ => .stuck
    | _, _ => .stuck
  | _ => .stuck) := by first | exact (rfl) | (unfold srcZ; exact (rfl))
end L2.HW
namespace L2.HW
open PySem PySem.Spec PyProof.Rows
noncomputable def b_l_mixed : SFn :=
  (sSeq (sSet 2 (eOp opMod (eCallB cInt (aCons (eOp opAdd (eOp opAdd (eOp opMul (eOp opMod (eCallB cInt (aCons (eVar 0) aNil)) (eC (.int 2147483647))) (eC (.int 48271))) (eOp opMul (eVar 1) (eC (.int 69621)))) (eC (.int 1048583))) aNil)) (eC (.int 2147483629))))
  (sSeq (sSet 2 (eOp opMod (eCallB cInt (aCons (eOp opMul (eVar 2) (eVar 2)) aNil)) (eC (.int 2147483587))))
  (sRet (eOp opMod (eCallB cInt (aCons (eOp opMul (eVar 2) (eOp opAdd (eVar 2) (eC (.int 2)))) aNil)) (eC (.int 2147483579))))))
noncomputable def F_l_mixed : Fn := mkFn 2 3 b_l_mixed
noncomputable def b_l_pile_1 : SFn :=
  (sSet 3 (eOp opAdd (eOp opMul (eVar 3) (eC (.int 2147483579))) (eCall F_l_mixed (aCons (eVar 2) (aCons (eOp opAdd (eOp opAdd (eOp opMul (eC (.int 7)) (eVar 1)) (eOp opMul (eC (.int 100)) (eVar 4))) (eOp opMul (eVar 4) (eVar 4))) aNil)))))
noncomputable def b_l_pile : SFn :=
  (sSeq (sSet 2 (eC (.int 0)))
  (sSeq (sIf (tVal (eOp opLt (eVar 1) (eCallB cLen (aCons (eVar 0) aNil)))) (sSet 2 (eOp opIx (eVar 0) (eVar 1))) sNil)
  (sSeq (sIf (tVal (eOp opGe (eVar 2) (eOp opPow (eC (.int 10)) (eC (.int 18))))) (sRetF (fLst (aCons (eOp opMod (eCallB cInt (aCons (eOp opSub (eVar 2) (eOp opPow (eC (.int 10)) (eC (.int 18)))) aNil)) (eOp opMul (eOp opMul (eOp opMul (eOp opPow (eC (.int 10)) (eC (.int 60))) (eOp opPow (eC (.int 10)) (eC (.int 60)))) (eOp opPow (eC (.int 10)) (eC (.int 60)))) (eOp opPow (eC (.int 10)) (eC (.int 60))))) aNil))) sNil)
  (sSeq (sSet 3 (eC (.int 0)))
  (sSeq (sFor (srcR1 (aCons (eC (.int 24)) aNil)) (tN 4) b_l_pile_1)
  (sRetF (fLst (aCons (eVar 3) aNil))))))))
noncomputable def F_l_pile : FnF := mkFnF 2 5 b_l_pile
noncomputable def b_l_take : SFn :=
  (sSeq (sSet 2 (eOp opMod (eCallB cInt (aCons (eOp opIx (eVar 0) (eC (.int 0))) aNil)) (eVar 1)))
  (sSeq (sAsg (eOp opDiv (eOp opIx (eVar 0) (eC (.int 0))) (eVar 1)) (tIx (eVar 0) (eC (.int 0))))
  (sRet (eVar 2))))
noncomputable def F_l_take : Fn := mkFn 2 3 b_l_take
noncomputable def b_is_whole : SFn :=
  (sRet (eAnd (eIsi "int" (eVar 0)) (eAnd (eNot (eIsi "bool" (eVar 0))) (eOp opGe (eVar 0) (eC (.int 0))))))
noncomputable def F_is_whole : Fn := mkFn 1 1 b_is_whole
noncomputable def b_is_place : SFn :=
  (sRet (eAnd (eCall F_is_whole (aCons (eVar 1) aNil)) (eOp opLt (eVar 1) (eVar 0))))
noncomputable def F_is_place : Fn := mkFn 2 2 b_is_place
noncomputable def b_is_more : SFn :=
  (sRet (eAnd (eCall F_is_whole (aCons (eVar 0) aNil)) (eOp opGt (eVar 0) (eC (.int 0)))))
noncomputable def F_is_more : Fn := mkFn 1 1 b_is_more
noncomputable def b_is_road : SFn :=
  (sSeq (sIf (tOrF (tNotF (tVal (eIsi "tuple" (eVar 2)))) (tVal (eOp opNe (eCallB cLen (aCons (eVar 2) aNil)) (eC (.int 4))))) (sRet (eC (.bool false))) sNil)
  (sSeq (sAsg (eVar 2) (tTupT 4 (tgCons (tN 3) (tgCons (tN 4) (tgCons (tN 5) (tgCons (tN 6) tgNil))))))
  (sSeq (sIf (tOrF (tNotF (tVal (eCall F_is_place (aCons (eVar 0) (aCons (eVar 3) aNil))))) (tOrF (tNotF (tVal (eCall F_is_place (aCons (eVar 0) (aCons (eVar 4) aNil))))) (tOrF (tVal (eOp opEq (eVar 3) (eVar 4))) (tVal (eOp opEq (eVar 3) (eVar 1)))))) (sRet (eC (.bool false))) sNil)
  (sRet (eAnd (eCall F_is_more (aCons (eVar 5) aNil)) (eCall F_is_more (aCons (eVar 6) aNil)))))))
noncomputable def F_is_road : Fn := mkFn 3 7 b_is_road
noncomputable def b_l_whole : SFn :=
  (sRet (eAnd (eIsi "int" (eVar 0)) (eNot (eIsi "bool" (eVar 0)))))
noncomputable def F_l_whole : Fn := mkFn 1 1 b_l_whole
noncomputable def b_l_is_from : SFn :=
  (sRet (eAnd (eCall F_l_whole (aCons (eVar 0) aNil)) (eOp opGe (eVar 0) (eVar 1))))
noncomputable def F_l_is_from : Fn := mkFn 2 2 b_l_is_from
noncomputable def b_l_is_place : SFn :=
  (sRet (eAnd (eCall F_l_is_from (aCons (eVar 1) (aCons (eC (.int 0)) aNil))) (eOp opLt (eVar 1) (eVar 0))))
noncomputable def F_l_is_place : Fn := mkFn 2 2 b_l_is_place
noncomputable def b_l_is_road : SFn :=
  (sSeq (sIf (tOrF (tNotF (tVal (eIsi "tuple" (eVar 2)))) (tVal (eOp opNe (eCallB cLen (aCons (eVar 2) aNil)) (eC (.int 4))))) (sRet (eC (.bool false))) sNil)
  (sSeq (sAsg (eVar 2) (tTupT 4 (tgCons (tN 3) (tgCons (tN 4) (tgCons (tN 5) (tgCons (tN 6) tgNil))))))
  (sSeq (sIf (tOrF (tNotF (tVal (eCall F_l_is_place (aCons (eVar 0) (aCons (eVar 3) aNil))))) (tOrF (tNotF (tVal (eCall F_l_is_place (aCons (eVar 0) (aCons (eVar 4) aNil))))) (tOrF (tVal (eOp opEq (eVar 3) (eVar 4))) (tVal (eOp opEq (eVar 3) (eVar 1)))))) (sRet (eC (.bool false))) sNil)
  (sRet (eAnd (eCall F_l_is_from (aCons (eVar 5) (aCons (eC (.int 1)) aNil))) (eCall F_l_is_from (aCons (eVar 6) (aCons (eC (.int 1)) aNil))))))))
noncomputable def F_l_is_road : Fn := mkFn 3 7 b_l_is_road
noncomputable def b_l_order_of_1 : SFn :=
  (sExpr (eMeth isLs mInsert (eVar 2) (aCons (eCall F_l_take (aCons (eVar 0) (aCons (eOp opAdd (eVar 3) (eC (.int 1))) aNil))) (aCons (eVar 3) aNil))))
noncomputable def b_l_order_of : SFn :=
  (sSeq (sSet 2 (eNew (fLst aNil)))
  (sSeq (sFor (srcR1 (aCons (eVar 1) aNil)) (tN 3) b_l_order_of_1)
  (sRet (eVar 2))))
noncomputable def F_l_order_of : Fn := mkFn 2 4 b_l_order_of
noncomputable def b_l_grown_1 : SFn :=
  (sSeq (sSet 5 (eCall F_l_take (aCons (eVar 0) (aCons (eCallB cLen (aCons (eVar 2) aNil)) aNil))))
  (sSeq (sAsg (eOp opIx (eVar 2) (eVar 5)) (tTupT 2 (tgCons (tN 6) (tgCons (tN 7) tgNil))))
  (sIf (tAndF (tVal (eOp opEq (eCall F_l_take (aCons (eVar 0) (aCons (eC (.int 2)) aNil))) (eC (.int 0)))) (tVal (eOp opLt (eVar 3) (eC (.int 7))))) (sSeq (sSet 2 (eOp opAdd (eOp opAdd (eSl (eVar 2) pNone (pSome (eVar 5))) (eDat (fLst (aCons (eTup (aCons (eVar 6) (aCons (eVar 3) aNil))) (aCons (eTup (aCons (eVar 3) (aCons (eVar 7) aNil))) aNil))))) (eSl (eVar 2) (pSome (eOp opAdd (eVar 5) (eC (.int 1)))) pNone)))
  (sSet 3 (eOp opAdd (eVar 3) (eC (.int 1))))) (sSet 2 (eOp opAdd (eOp opAdd (eSl (eVar 2) pNone (pSome (eVar 5))) (eDat (fLst (aCons (eTup (aCons (eVar 6) (aCons (eVar 7) aNil))) aNil)))) (eSl (eVar 2) (pSome (eVar 5)) pNone))))))
noncomputable def b_l_grown : SFn :=
  (sSeq (sSet 2 (eDat (fLst (aCons (eTup (aCons (eC (.int 0)) (aCons (eC (.int 1)) aNil))) aNil))))
  (sSeq (sSet 3 (eC (.int 2)))
  (sSeq (sFor (srcR1 (aCons (eVar 1) aNil)) (tN 4) b_l_grown_1)
  (sRet (eTup (aCons (eVar 3) (aCons (eC (.int 0)) (aCons (eC (.int 1)) (aCons (eCallB cTuple (aCons (eVar 2) aNil)) aNil)))))))))
noncomputable def F_l_grown : Fn := mkFn 2 8 b_l_grown
noncomputable def b_l_shape_1 : SFn :=
  (sSeq (sSet 7 (eCall F_l_take (aCons (eVar 0) (aCons (eOp opSub (eVar 3) (eC (.int 1))) aNil))))
  (sSeq (sSet 8 (eOp opAdd (eOp opAdd (eVar 7) (eC (.int 1))) (eCall F_l_take (aCons (eVar 0) (aCons (eOp opSub (eOp opSub (eVar 3) (eC (.int 1))) (eVar 7)) aNil)))))
  (sExpr (eMeth isLs mAppend (eVar 5) (aCons (eTup (aCons (eOp opIx (eVar 4) (eVar 7)) (aCons (eOp opIx (eVar 4) (eVar 8)) aNil))) aNil)))))
noncomputable def b_l_shape : SFn :=
  (sSeq (sSet 3 (eOp opAdd (eC (.int 2)) (eCall F_l_take (aCons (eVar 0) (aCons (eOp opSub (eVar 1) (eC (.int 1))) aNil)))))
  (sSeq (sSet 4 (eCall F_l_order_of (aCons (eVar 0) (aCons (eVar 3) aNil))))
  (sSeq (sSet 5 (eNew (fLst aNil)))
  (sSeq (sFor (srcR1 (aCons (eCall F_l_take (aCons (eVar 0) (aCons (eOp opAdd (eVar 2) (eC (.int 1))) aNil))) aNil)) (tN 6) b_l_shape_1)
  (sSeq (sSet 9 (eOp opIx (eDat (fLst (aCons (eC (.int 0)) (aCons (eC (.int 0)) (aCons (eC (.int 0)) (aCons (eCall F_l_take (aCons (eVar 0) (aCons (eOp opSub (eVar 3) (eC (.int 1))) aNil))) aNil)))))) (eCall F_l_take (aCons (eVar 0) (aCons (eC (.int 4)) aNil)))))
  (sRet (eTup (aCons (eVar 3) (aCons (eOp opIx (eVar 4) (eVar 9)) (aCons (eOp opIx (eVar 4) (eNeg (eC (.int 1)))) (aCons (eCallB cTuple (aCons (eVar 5) aNil)) aNil)))))))))))
noncomputable def F_l_shape : Fn := mkFn 3 10 b_l_shape
noncomputable def b_is_pair : SFn :=
  (sSeq (sIf (tOrF (tNotF (tVal (eIsi "tuple" (eVar 2)))) (tOrF (tVal (eOp opNe (eCallB cLen (aCons (eVar 2) aNil)) (eC (.int 2)))) (tNotF (tVal (eCallB cAll (aCons (eDat (fComp (srcV (eVar 2)) (tN 3) tTrue (eCall F_is_place (aCons (eVar 0) (aCons (eVar 3) aNil))) [3])) aNil)))))) (sRet (eC (.bool false))) sNil)
  (sRet (eAnd (eOp opNe (eOp opIx (eVar 2) (eC (.int 0))) (eOp opIx (eVar 2) (eC (.int 1)))) (eOp opNe (eOp opIx (eVar 2) (eC (.int 0))) (eVar 1)))))
noncomputable def F_is_pair : Fn := mkFn 3 4 b_is_pair
noncomputable def b_reached_1 : SFn :=
  (sIf (tVal (eOp (opIn false) (eVar 4) (eVar 2))) (sAsg (eC (.bool true)) (tIx (eVar 2) (eVar 5))) sNil)
noncomputable def b_reached_2 : SFn :=
  (sSeq (sSet 3 (eCallB cLen (aCons (eVar 2) aNil)))
  (sFor (srcV (eVar 0)) (tTupT 2 (tgCons (tN 4) (tgCons (tN 5) tgNil))) b_reached_1))
noncomputable def b_reached : SFn :=
  (sSeq (sSet 2 (eNew (fDComp (srcV (eVar 1)) (tN 6) tTrue (eVar 6) (eC (.bool true)) [6])))
  (sSeq (sSet 3 (eC (.int 0)))
  (sSeq (sWhile (tVal (eOp opNe (eVar 3) (eCallB cLen (aCons (eVar 2) aNil)))) b_reached_2)
  (sRet (eVar 2)))))
noncomputable def F_reached : Fn := mkFn 2 7 b_reached
noncomputable def b_has_round : SFn :=
  (sRet (eCallB cAny (aCons (eDat (fComp (srcV (eVar 0)) (tTupT 2 (tgCons (tN 1) (tgCons (tN 2) tgNil))) tTrue (eOp (opIn false) (eVar 1) (eCall F_reached (aCons (eVar 0) (aCons (eDat (fLst (aCons (eVar 2) aNil))) aNil)))) [1, 2])) aNil)))
noncomputable def F_has_round : Fn := mkFn 1 3 b_has_round
noncomputable def b_is_right_shape : SFn :=
  (sSeq (sIf (tOrF (tNotF (tVal (eIsi "tuple" (eVar 0)))) (tOrF (tVal (eOp opNe (eCallB cLen (aCons (eVar 0) aNil)) (eC (.int 4)))) (tOrF (tNotF (tVal (eCall F_is_whole (aCons (eOp opIx (eVar 0) (eC (.int 0))) aNil)))) (tVal (eOp opLt (eOp opIx (eVar 0) (eC (.int 0))) (eC (.int 2))))))) (sRet (eC (.bool false))) sNil)
  (sSeq (sAsg (eVar 0) (tTupT 4 (tgCons (tN 1) (tgCons (tN 2) (tgCons (tN 3) (tgCons (tN 4) tgNil))))))
  (sSeq (sIf (tOrF (tNotF (tVal (eCall F_is_place (aCons (eVar 1) (aCons (eVar 2) aNil))))) (tOrF (tNotF (tVal (eCall F_is_place (aCons (eVar 1) (aCons (eVar 3) aNil))))) (tOrF (tVal (eOp opEq (eVar 2) (eVar 3))) (tNotF (tVal (eIsi "tuple" (eVar 4))))))) (sRet (eC (.bool false))) sNil)
  (sRet (eAnd (eCallB cAll (aCons (eDat (fComp (srcV (eVar 4)) (tN 5) tTrue (eCall F_is_pair (aCons (eVar 1) (aCons (eVar 3) (aCons (eVar 5) aNil)))) [5])) aNil)) (eNot (eCall F_has_round (aCons (eVar 4) aNil))))))))
noncomputable def F_is_right_shape : Fn := mkFn 1 6 b_is_right_shape
noncomputable def b_l_once_1 : SFn :=
  (sAsg (eC (.bool true)) (tIx (eVar 1) (eVar 2)))
noncomputable def b_l_once : SFn :=
  (sSeq (sSet 1 (eNew fD0))
  (sSeq (sFor (srcV (eVar 0)) (tN 2) b_l_once_1)
  (sRet (eDat (fComp (srcK 1) (tN 2) tTrue (eVar 2) [2])))))
noncomputable def F_l_once : Fn := mkFn 1 3 b_l_once
noncomputable def b_l_is_shape_1 : SFn :=
  (sSeq (sIf (tOrF (tNotF (tVal (eIsi "tuple" (eVar 5)))) (tOrF (tVal (eOp opNe (eCallB cLen (aCons (eVar 5) aNil)) (eC (.int 2)))) (tNotF (tVal (eCall F_l_is_place (aCons (eVar 1) (aCons (eOp opIx (eVar 5) (eC (.int 0))) aNil))))))) (sRet (eC (.bool false))) sNil)
  (sIf (tOrF (tNotF (tVal (eCall F_l_is_place (aCons (eVar 1) (aCons (eOp opIx (eVar 5) (eC (.int 1))) aNil))))) (tOrF (tVal (eOp opEq (eOp opIx (eVar 5) (eC (.int 0))) (eOp opIx (eVar 5) (eC (.int 1))))) (tVal (eOp opEq (eOp opIx (eVar 5) (eC (.int 0))) (eVar 3))))) (sRet (eC (.bool false))) sNil))
noncomputable def b_l_is_shape_2 : SFn :=
  (sSet 6 (eDat (fComp (srcV (eVar 6)) (tN 8) (tVal (eOp opNe (eDat (fComp (srcV (eVar 4)) (tN 5) (tAndF (tVal (eOp opEq (eOp opIx (eVar 5) (eC (.int 0))) (eVar 8))) (tVal (eOp (opIn false) (eOp opIx (eVar 5) (eC (.int 1))) (eVar 6)))) (eVar 5) [5])) (eDat (fLst aNil)))) (eVar 8) [8])))
noncomputable def b_l_is_shape : SFn :=
  (sSeq (sIf (tOrF (tNotF (tVal (eIsi "tuple" (eVar 0)))) (tOrF (tVal (eOp opNe (eCallB cLen (aCons (eVar 0) aNil)) (eC (.int 4)))) (tNotF (tVal (eCall F_l_is_from (aCons (eOp opIx (eVar 0) (eC (.int 0))) (aCons (eC (.int 2)) aNil))))))) (sRet (eC (.bool false))) sNil)
  (sSeq (sAsg (eVar 0) (tTupT 4 (tgCons (tN 1) (tgCons (tN 2) (tgCons (tN 3) (tgCons (tN 4) tgNil))))))
  (sSeq (sIf (tOrF (tNotF (tVal (eCall F_l_is_place (aCons (eVar 1) (aCons (eVar 2) aNil))))) (tOrF (tNotF (tVal (eCall F_l_is_place (aCons (eVar 1) (aCons (eVar 3) aNil))))) (tOrF (tVal (eOp opEq (eVar 2) (eVar 3))) (tNotF (tVal (eIsi "tuple" (eVar 4))))))) (sRet (eC (.bool false))) sNil)
  (sSeq (sFor (srcV (eVar 4)) (tN 5) b_l_is_shape_1)
  (sSeq (sSet 6 (eCall F_l_once (aCons (eDat (fComp (srcV (eVar 4)) (tN 5) tTrue (eOp opIx (eVar 5) (eC (.int 0))) [5])) aNil)))
  (sSeq (sFor (srcR1 (aCons (eOp opAdd (eCallB cLen (aCons (eVar 4) aNil)) (eC (.int 1))) aNil)) (tN 7) b_l_is_shape_2)
  (sRet (eOp opEq (eVar 6) (eDat (fLst aNil))))))))))
noncomputable def F_l_is_shape : Fn := mkFn 1 9 b_l_is_shape
end L2.HW
namespace L2.HW
open PySem PySem.Spec PyProof.Rows
noncomputable def b_l_word_of : SFn :=
  (sSeq (sSet 1 (eDat (fLst (aCons (eIsE "NoWeb" (eVar 0)) (aCons (eIsE "NoMoment" (eVar 0)) (aCons (eIsE "NoNumber" (eVar 0)) aNil))))))
  (sSeq (sSet 1 (eOp opAdd (eVar 1) (eDat (fLst (aCons (eIsE "NoRoad" (eVar 0)) (aCons (eIsE "NoCut" (eVar 0)) (aCons (eIsE "NoShape" (eVar 0)) aNil)))))))
  (sSeq (sSet 1 (eOp opAdd (eVar 1) (eDat (fLst (aCons (eIsE "NotTree" (eVar 0)) (aCons (eIsE "NotRoad" (eVar 0)) (aCons (eIsE "NoText" (eVar 0)) aNil)))))))
  (sSeq (sSet 1 (eOp opAdd (eVar 1) (eDat (fLst (aCons (eIsE "Unlike" (eVar 0)) (aCons (eIsE "ValueError" (eVar 0)) (aCons (eIsE "HasteError" (eVar 0)) aNil)))))))
  (sSeq (sSet 2 (eDat (fLst (aCons (eC (.str "web")) (aCons (eC (.str "moment")) (aCons (eC (.str "number")) (aCons (eC (.str "road")) (aCons (eC (.str "cut")) (aCons (eC (.str "shape")) (aCons (eC (.str "tree")) (aCons (eC (.str "notroad")) (aCons (eC (.str "text")) (aCons (eC (.str "unlike")) (aCons (eC (.str "value")) (aCons (eC (.str "error")) aNil)))))))))))))))
  (sSeq (sSet 3 (eDat (fComp (srcZ (aCons (eVar 2) (aCons (eVar 1) aNil))) (tTupT 2 (tgCons (tN 4) (tgCons (tN 5) tgNil))) (tVal (eVar 5)) (eVar 4) [4, 5])))
  (sSeq (sIf (tVal (eOp opEq (eVar 3) (eDat (fLst aNil)))) (sRet (eC (.str ""))) sNil)
  (sRet (eOp opIx (eDat (fLst (aCons (eOp opIx (eVar 3) (eC (.int 0))) (aCons (eC (.str "other")) aNil)))) (eCallB cInt (aCons (eOp opNe (eSl (eVar 3) (pSome (eC (.int 1))) pNone) (eDat (fLst (aCons (eC (.str "value")) (aCons (eC (.str "error")) aNil))))) aNil)))))))))))
noncomputable def F_l_word_of : Fn := mkFn 1 6 b_l_word_of
end L2.HW
namespace L2.HW
open PySem PySem.Spec PyProof.Rows
end L2.HW
namespace L2.HW
open PySem PySem.Spec PyProof.Rows
end L2.HW
namespace L2.HW
open PySem PySem.Spec PyProof.Rows
noncomputable def b_look_at_shape : SFn :=
  (sIf (tNotF (tVal (eCall F_is_right_shape (aCons (eVar 0) aNil)))) (sRaise "NoShape") sNil)
noncomputable def F_look_at_shape : Fn := mkFn 1 1 b_look_at_shape
noncomputable def b_l_pick : SFn :=
  (sRet (eOp opIx (eVar 1) (eCall F_l_take (aCons (eVar 0) (aCons (eCallB cLen (aCons (eVar 1) aNil)) aNil)))))
noncomputable def F_l_pick : Fn := mkFn 2 2 b_l_pick
end L2.HW
namespace L2.HW
open PySem PySem.Spec PyProof.Rows
end L2.HW
namespace L2.HW
open PySem PySem.Spec PyProof.Rows
end L2.HW
namespace L2.HW
open PySem PySem.Spec PyProof.Rows
end L2.HW
namespace L2.HW
open PySem PySem.Spec PyProof.Rows
end L2.HW
namespace L2.HW
open PySem PySem.Spec PyProof.Rows
end L2.HW
namespace L2.HW
open PySem PySem.Spec PyProof.Rows
end L2.HW
namespace L2.HW
open PySem PySem.Spec PyProof.Rows
noncomputable def b_rows_text : SFn :=
  (sRet (eJoin (eC (.str "\n")) (eDat (fComp (srcV (eVar 1)) (tN 2) tTrue (eJoin (eC (.str " ")) (eOp opAdd (eDat (fLst (aCons (eVar 0) aNil))) (eDat (fComp (srcV (eVar 2)) (tN 3) tTrue (eCallB cStr (aCons (eVar 3) aNil)) [3])))) [2]))))
noncomputable def F_rows_text : Fn := mkFn 2 4 b_rows_text
noncomputable def b_number_read : SFn :=
  (sSeq (sIf (tOrF (tVal (eOp opEq (eVar 0) (eC (.str "")))) (tOrF (tVal (eOp opGt (eCallB cLen (aCons (eVar 0) aNil)) (eC (.int 30)))) (tNotF (tVal (eCallB cAll (aCons (eDat (fComp (srcS (eVar 0)) (tN 1) tTrue (eOp (opIn false) (eVar 1) (eC (.str "0123456789"))) [1])) aNil)))))) (sRet (eC .none)) sNil)
  (sRet (eIf (tAndF (tVal (eOp opEq (eOp opIx (eVar 0) (eC (.int 0))) (eC (.str "0")))) (tVal (eOp opNe (eVar 0) (eC (.str "0"))))) (eC .none) (eCallB cIntS (aCons (eVar 0) aNil)))))
noncomputable def F_number_read : Fn := mkFn 1 2 b_number_read
noncomputable def b_row_read : SFn :=
  (sSeq (sSet 3 (eDat (fSplit (eVar 0) (eC (.str " ")))))
  (sSeq (sSet 4 (eDat (fComp (srcV (eSl (eVar 3) (pSome (eC (.int 1))) pNone)) (tN 5) tTrue (eCall F_number_read (aCons (eVar 5) aNil)) [5])))
  (sRet (eIf (tAndF (tVal (eOp opEq (eOp opIx (eVar 3) (eC (.int 0))) (eVar 1))) (tAndF (tVal (eOp opEq (eCallB cLen (aCons (eVar 4) aNil)) (eVar 2))) (tVal (eOp (opIn true) (eC .none) (eVar 4))))) (eCallB cTuple (aCons (eVar 4) aNil)) (eC .none)))))
noncomputable def F_row_read : Fn := mkFn 3 6 b_row_read
noncomputable def b_rows_read_1 : SFn :=
  (sSeq (sSet 9 (eCall F_row_read (aCons (eVar 8) (aCons (eVar 2) (aCons (eVar 3) aNil)))))
  (sSeq (sIf (tVal (eOp opIsN (eVar 9) (eC .none))) (sRaiseV "NoText" (aCons (eVar 7) aNil)) sNil)
  (sExpr (eMeth isLs mAppend (eVar 6) (aCons (eVar 9) aNil)))))
noncomputable def b_rows_read : SFn :=
  (sSeq (sSet 4 (eDat (fSplit (eVar 0) (eC (.str "\n")))))
  (sSeq (sSet 5 (eCall F_row_read (aCons (eOp opIx (eVar 4) (eC (.int 0))) (aCons (eVar 1) (aCons (eC (.int 3)) aNil)))))
  (sSeq (sIf (tVal (eOp opIsN (eVar 5) (eC .none))) (sRaiseV "NoText" (aCons (eC (.int 1)) aNil)) sNil)
  (sSeq (sSet 6 (eNew (fLst aNil)))
  (sSeq (sFor (srcEk (aCons (eSl (eVar 4) (pSome (eC (.int 1))) pNone) (aCons (eC (.int 2)) aNil))) (tTupT 2 (tgCons (tN 7) (tgCons (tN 8) tgNil))) b_rows_read_1)
  (sRet (eTup (aStar (eVar 5) (aCons (eCallB cTuple (aCons (eVar 6) aNil)) aNil)))))))))
noncomputable def F_rows_read : Fn := mkFn 4 10 b_rows_read
noncomputable def b_l_bent_v5 : SFn :=
  (sSeq (sSet 2 (eC (.str "01239 \nwebroadshpi-_A")))
  (sSeq (sSet 3 (eDat (fLst (aCons (eC (.str "web")) (aCons (eC (.str "road")) (aCons (eC (.str "shape")) (aCons (eC (.str "pair")) (aCons (eC (.str "0")) (aCons (eC (.str "1")) (aCons (eC (.str "2")) (aCons (eC (.str "00")) (aCons (eC (.str "-1")) (aCons (eC (.str "")) (aCons (eOp opMulS (eC (.str "1")) (eC (.int 31))) (aCons (eC (.str "road 0 1 1 1")) aNil)))))))))))))))
  (sSeq (sSet 3 (eOp opAdd (eVar 3) (eDat (fLst (aCons (eC (.str "pair 0 1")) (aCons (eOp opMulS (eC (.str "1")) (eC (.int 30))) aNil))))))
  (sSeq (sSet 4 (eCall F_l_take (aCons (eVar 0) (aCons (eOp opAdd (eCallB cLen (aCons (eVar 1) aNil)) (eC (.int 1))) aNil))))
  (sSeq (sSet 5 (eOp opIx (eVar 2) (eCall F_l_take (aCons (eVar 0) (aCons (eCallB cLen (aCons (eVar 2) aNil)) aNil)))))
  (sSeq (sSet 6 (eCall F_l_take (aCons (eVar 0) (aCons (eC (.int 6)) aNil))))
  (sSeq (sIf (tVal (eOp opLt (eVar 6) (eC (.int 3)))) (sRet (eOp opAdd (eOp opAdd (eSl (eVar 1) pNone (pSome (eVar 4))) (eOp opIx (eDat (fLst (aCons (eC (.str "")) (aCons (eVar 5) (aCons (eVar 5) aNil))))) (eVar 6))) (eSl (eVar 1) (pSome (eOp opAdd (eVar 4) (eOp opIx (eDat (fLst (aCons (eC (.int 1)) (aCons (eC (.int 0)) (aCons (eC (.int 1)) aNil))))) (eVar 6)))) pNone))) sNil)
  (sSeq (sSet 7 (eOp opIx (eDat (fLst (aCons (eC (.str " ")) (aCons (eC (.str "\n")) (aCons (eC (.str "\n")) aNil))))) (eOp opSub (eVar 6) (eC (.int 3)))))
  (sSeq (sSet 8 (eDat (fSplit (eVar 1) (eVar 7))))
  (sSeq (sSet 9 (eCall F_l_take (aCons (eVar 0) (aCons (eCallB cLen (aCons (eVar 8) aNil)) aNil))))
  (sSeq (sIf (tVal (eOp opEq (eVar 6) (eC (.int 5)))) (sRet (eJoin (eVar 7) (eOp opAdd (eSl (eVar 8) pNone (pSome (eVar 9))) (eSl (eVar 8) (pSome (eOp opAdd (eVar 9) (eC (.int 1)))) pNone)))) sNil)
  (sRet (eJoin (eVar 7) (eOp opAdd (eOp opAdd (eSl (eVar 8) pNone (pSome (eVar 9))) (eDat (fLst (aCons (eCall F_l_pick (aCons (eVar 0) (aCons (eVar 3) aNil))) aNil)))) (eSl (eVar 8) (pSome (eOp opAdd (eVar 9) (eC (.int 1)))) pNone)))))))))))))))
noncomputable def F_l_bent_v5 : Fn := mkFn 2 10 b_l_bent_v5
noncomputable def b_l_number_of : SFn :=
  (sSeq (sIf (tOrF (tVal (eOp opEq (eVar 0) (eC (.str "")))) (tOrF (tVal (eOp opNe (eDat (fComp (srcS (eVar 0)) (tN 1) (tVal (eOp (opIn true) (eVar 1) (eC (.str "0123456789")))) (eVar 1) [1])) (eDat (fLst aNil)))) (tVal (eOp opGt (eCallB cLen (aCons (eVar 0) aNil)) (eC (.int 30)))))) (sRet (eC .none)) sNil)
  (sSeq (sIf (tAndF (tVal (eOp opEq (eOp opIx (eVar 0) (eC (.int 0))) (eC (.str "0")))) (tVal (eOp opNe (eVar 0) (eC (.str "0"))))) (sRet (eC .none)) sNil)
  (sRet (eCallB cIntS (aCons (eVar 0) aNil)))))
noncomputable def F_l_number_of : Fn := mkFn 1 2 b_l_number_of
noncomputable def b_l_row_of : SFn :=
  (sSeq (sSet 3 (eDat (fSplit (eVar 0) (eC (.str " ")))))
  (sSeq (sSet 4 (eDat (fComp (srcV (eSl (eVar 3) (pSome (eC (.int 1))) pNone)) (tN 5) tTrue (eCall F_l_number_of (aCons (eVar 5) aNil)) [5])))
  (sSeq (sIf (tOrF (tVal (eOp opNe (eOp opIx (eVar 3) (eC (.int 0))) (eVar 1))) (tOrF (tVal (eOp opNe (eCallB cLen (aCons (eVar 4) aNil)) (eVar 2))) (tVal (eOp (opIn false) (eC .none) (eVar 4))))) (sRet (eC .none)) sNil)
  (sRet (eCallB cTuple (aCons (eVar 4) aNil))))))
noncomputable def F_l_row_of : Fn := mkFn 3 6 b_l_row_of
noncomputable def b_l_text_v2_1 : SFn :=
  (sExpr (eMeth isLs mAppend (eVar 1) (aCons (eJoin (eC (.str " ")) (eOp opAdd (eDat (fLst (aCons (eC (.str "pair")) aNil))) (eDat (fComp (srcV (eVar 2)) (tN 3) tTrue (eCallB cStr (aCons (eVar 3) aNil)) [3])))) aNil)))
noncomputable def b_l_text_v2 : SFn :=
  (sSeq (sSet 1 (eNew (fLst (aCons (eJoin (eC (.str " ")) (eOp opAdd (eDat (fLst (aCons (eC (.str "shape")) aNil))) (eDat (fComp (srcV (eSl (eVar 0) pNone (pSome (eC (.int 3))))) (tN 3) tTrue (eCallB cStr (aCons (eVar 3) aNil)) [3])))) aNil))))
  (sSeq (sFor (srcV (eOp opIx (eVar 0) (eC (.int 3)))) (tN 2) b_l_text_v2_1)
  (sRet (eJoin (eC (.str "\n")) (eVar 1)))))
noncomputable def F_l_text_v2 : Fn := mkFn 1 4 b_l_text_v2
noncomputable def b_shape_text : SFn :=
  (sSeq (sExpr (eCall F_look_at_shape (aCons (eVar 0) aNil)))
  (sRet (eJoin (eC (.str "\n")) (eOp opAdd (eDat (fLst (aCons (eCall F_rows_text (aCons (eC (.str "shape")) (aCons (eDat (fLst (aCons (eSl (eVar 0) pNone (pSome (eC (.int 3)))) aNil))) aNil))) aNil))) (eDat (fComp (srcV (eOp opIx (eVar 0) (eC (.int 3)))) (tN 1) tTrue (eCall F_rows_text (aCons (eC (.str "pair")) (aCons (eDat (fLst (aCons (eVar 1) aNil))) aNil))) [1]))))))
noncomputable def F_shape_text : Fn := mkFn 1 2 b_shape_text
noncomputable def b_read_shape : SFn :=
  (sSeq (sSet 1 (eCall F_rows_read (aCons (eVar 0) (aCons (eC (.str "shape")) (aCons (eC (.str "pair")) (aCons (eC (.int 2)) aNil))))))
  (sSeq (sIf (tNotF (tVal (eCall F_is_right_shape (aCons (eVar 1) aNil)))) (sRaiseV "NoText" (aCons (eOp opAdd (eCallB cLen (aCons (eDat (fSplit (eVar 0) (eC (.str "\n")))) aNil)) (eC (.int 1))) aNil)) sNil)
  (sRet (eVar 1))))
noncomputable def F_read_shape : Fn := mkFn 1 2 b_read_shape
noncomputable def b_l_due_v8_1 : SFn :=
  (sSeq (sSet 5 (eCall F_l_row_of (aCons (eOp opIx (eVar 1) (eVar 4)) (aCons (eC (.str "pair")) (aCons (eC (.int 2)) aNil)))))
  (sSeq (sIf (tVal (eOp opIsN (eVar 5) (eC .none))) (sRet (eOp opAdd (eVar 4) (eC (.int 1)))) sNil)
  (sExpr (eMeth isLs mAppend (eVar 3) (aCons (eVar 5) aNil)))))
noncomputable def b_l_due_v8 : SFn :=
  (sSeq (sSet 1 (eDat (fSplit (eVar 0) (eC (.str "\n")))))
  (sSeq (sSet 2 (eCall F_l_row_of (aCons (eOp opIx (eVar 1) (eC (.int 0))) (aCons (eC (.str "shape")) (aCons (eC (.int 3)) aNil)))))
  (sSeq (sIf (tVal (eOp opIsN (eVar 2) (eC .none))) (sRet (eC (.int 1))) sNil)
  (sSeq (sSet 3 (eNew (fLst aNil)))
  (sSeq (sFor (srcR2 (aCons (eC (.int 1)) (aCons (eCallB cLen (aCons (eVar 1) aNil)) aNil))) (tN 4) b_l_due_v8_1)
  (sSeq (sSet 6 (eTup (aCons (eOp opIx (eVar 2) (eC (.int 0))) (aCons (eOp opIx (eVar 2) (eC (.int 1))) (aCons (eOp opIx (eVar 2) (eC (.int 2))) (aCons (eCallB cTuple (aCons (eVar 3) aNil)) aNil))))))
  (sSeq (sIf (tNotF (tVal (eCall F_l_is_shape (aCons (eVar 6) aNil)))) (sRet (eOp opAdd (eCallB cLen (aCons (eVar 1) aNil)) (eC (.int 1)))) sNil)
  (sRet (eVar 6)))))))))
noncomputable def F_l_due_v8 : Fn := mkFn 1 7 b_l_due_v8
noncomputable def b_l_both_v2 : SFn :=
  (sSeq (sSet 1 (eCall F_l_due_v8 (aCons (eVar 0) aNil)))
  (sSeq (sSet 2 (eC .none))
  (sSeq (sSet 3 (eC .none))
  (sSeq (sTry 4 3 (sSet 2 (eCall F_read_shape (aCons (eVar 0) aNil))))
  (sSeq (sIf (tVal (eOp opNotN (eVar 3) (eC .none))) (sRet (eAnd (eOp opIsN (eVar 2) (eC .none)) (eAnd (eOp opEq (eCall F_l_word_of (aCons (eVar 3) aNil)) (eC (.str "text"))) (eOp opEq (eCallB cRepr (aCons (eSpot (eVar 3)) aNil)) (eCallB cRepr (aCons (eVar 1) aNil)))))) sNil)
  (sRet (eOp opEq (eCallB cRepr (aCons (eVar 2) aNil)) (eCallB cRepr (aCons (eVar 1) aNil)))))))))
noncomputable def F_l_both_v2 : Fn := mkFn 1 5 b_l_both_v2
noncomputable def b_law_k56_1 : SFn :=
  (sSeq (sSet 7 (eCall F_l_bent_v5 (aCons (eVar 2) (aCons (eVar 5) aNil))))
  (sSeq (sIf (tVal (eOp opGt (eVar 6) (eC (.int 6)))) (sSet 7 (eCall F_l_bent_v5 (aCons (eVar 2) (aCons (eVar 7) aNil)))) sNil)
  (sIf (tOrF (tNotF (tVal (eCall F_l_both_v2 (aCons (eVar 5) aNil)))) (tNotF (tVal (eCall F_l_both_v2 (aCons (eVar 7) aNil))))) (sRet (eC (.bool false))) sNil)))
noncomputable def b_law_k56_2 : SFn :=
  (sSeq (sSet 2 (eNew (fCall F_l_pile (aCons (eVar 0) (aCons (eVar 1) aNil)))))
  (sSeq (sSet 3 (eOp opIx (eDat (fLst (aCons (eCall F_l_shape (aCons (eVar 2) (aCons (eC (.int 6)) (aCons (eC (.int 8)) aNil)))) (aCons (eCall F_l_grown (aCons (eVar 2) (aCons (eCall F_l_take (aCons (eVar 2) (aCons (eC (.int 6)) aNil))) aNil))) aNil)))) (eCall F_l_take (aCons (eVar 2) (aCons (eC (.int 2)) aNil)))))
  (sSeq (sSet 4 (eCallB cRepr (aCons (eVar 3) aNil)))
  (sSeq (sSet 5 (eCall F_l_text_v2 (aCons (eVar 3) aNil)))
  (sSeq (sIf (tOrF (tVal (eOp opNe (eCall F_shape_text (aCons (eVar 3) aNil)) (eVar 5))) (tOrF (tVal (eOp opNe (eCallB cRepr (aCons (eCall F_read_shape (aCons (eVar 5) aNil)) aNil)) (eVar 4))) (tVal (eOp opNe (eCallB cRepr (aCons (eVar 3) aNil)) (eVar 4))))) (sRet (eC (.bool false))) sNil)
  (sFor (srcR1 (aCons (eC (.int 10)) aNil)) (tN 6) b_law_k56_1))))))
noncomputable def b_law_k56_3 : SFn :=
  (sExpr (eMeth isLs mAppend (eVar 10) (aCons (eOp opAdd (eOp opAdd (eVar 9) (eC (.str "\n"))) (eVar 12)) aNil)))
noncomputable def b_law_k56_4 : SFn :=
  (sExpr (eMeth isLs mAppend (eVar 10) (aCons (eOp opAdd (eOp opAdd (eVar 9) (eC (.str "\npair 0 1\npair 0 "))) (eVar 13)) aNil)))
noncomputable def b_law_k56 : SFn :=
  (sSeq (sFor (srcR1 (aCons (eCallB cMax2 (aCons (eC (.int 2)) (aCons (eCallB cMin2 (aCons (eCallB cLen (aCons (eVar 0) aNil)) (aCons (eC (.int 10)) aNil))) aNil))) aNil)) (tN 1) b_law_k56_2)
  (sSeq (sSet 8 (eTup (aCons (eC (.int 30)) (aCons (eC (.int 20)) (aCons (eC (.int 10)) (aCons (eOp opMul (eTup (aCons (eTup (aCons (eC (.int 20)) (aCons (eC (.int 10)) aNil))) (aCons (eTup (aCons (eC (.int 20)) (aCons (eC (.int 11)) aNil))) (aCons (eTup (aCons (eC (.int 11)) (aCons (eC (.int 10)) aNil))) aNil)))) (eC (.int 6))) aNil))))))
  (sSeq (sIf (tOrF (tVal (eOp opNe (eCall F_shape_text (aCons (eVar 8) aNil)) (eCall F_l_text_v2 (aCons (eVar 8) aNil)))) (tVal (eOp opNe (eCall F_read_shape (aCons (eCall F_l_text_v2 (aCons (eVar 8) aNil)) aNil)) (eVar 8)))) (sRet (eC (.bool false))) sNil)
  (sSeq (sSet 9 (eC (.str "shape 3 0 2")))
  (sSeq (sSet 10 (eNew (fLst (aCons (eOp opAdd (eOp opAdd (eC (.str "shape ")) (eOp opMulS (eC (.str "1")) (eC (.int 30)))) (eC (.str " 1 0"))) (aCons (eOp opAdd (eOp opAdd (eC (.str "shape ")) (eOp opMulS (eC (.str "9")) (eC (.int 30)))) (eC (.str " 1 0\npair 1 2\npair 2 0"))) (aCons (eOp opAdd (eOp opAdd (eC (.str "shape ")) (eOp opMulS (eC (.str "1")) (eC (.int 31)))) (eC (.str " 1 0"))) aNil))))))
  (sSeq (sSet 10 (eNew (fCat (eVar 10) (eDat (fLst (aCons (eC (.str "")) (aCons (eC (.str "shape")) (aCons (eC (.str "shape 3 0")) (aCons (eVar 9) (aCons (eOp opAdd (eVar 9) (eC (.str "\n"))) (aCons (eC (.str "shape 3 0 0")) (aCons (eC (.str "shape 1 0 1")) (aCons (eC (.str "Shape 3 0 2")) aNil)))))))))))))
  (sSeq (sSet 10 (eNew (fCat (eVar 10) (eDat (fLst (aCons (eC (.str "web 3 0 2")) (aCons (eC (.str "shape 03 0 2")) aNil)))))))
  (sSeq (sSet 11 (eDat (fLst (aCons (eC (.str "pair 0 1")) (aCons (eC (.str "pair 0 0")) (aCons (eC (.str "pair 0")) (aCons (eC (.str "pair 0 1 ")) (aCons (eC (.str "pair 2 0")) (aCons (eC (.str "pair 0 3")) (aCons (eC (.str "road 0 1")) (aCons (eC (.str "pair 0 1 1")) aNil)))))))))))
  (sSeq (sFor (srcV (eOp opAdd (eVar 11) (eDat (fLst (aCons (eC (.str "pair 1 0\npair 0 1")) aNil))))) (tN 12) b_law_k56_3)
  (sSeq (sFor (srcV (eDat (fLst (aCons (eOp opMulS (eC (.str "9")) (eC (.int 30))) (aCons (eOp opMulS (eC (.str "9")) (eC (.int 31))) (aCons (eC (.str "01")) (aCons (eC (.str "-1")) (aCons (eC (.str "x")) aNil)))))))) (tN 13) b_law_k56_4)
  (sRet (eOp opEq (eDat (fComp (srcV (eVar 10)) (tN 5) (tNotF (tVal (eCall F_l_both_v2 (aCons (eVar 5) aNil)))) (eVar 5) [5])) (eDat (fLst aNil))))))))))))))
noncomputable def F_law_k56 : Fn := mkFn 1 14 b_law_k56
end L2.HW
set_option maxHeartbeats 0
namespace L2.HW.R_k56
open PySem PySem.Spec PyProof.Rows L2.HW
variable {P : Program} {w : World} {K : PySem.W.Frag} {mg : Str → Option Value} {base : Heap}
abbrev N__law_mixed : List Str := ["_law_cell", "_law_k", "_law_number"]
abbrev p__law_mixed : List Str := ["_law_cell", "_law_k"]
theorem sc__law_mixed : FnScope N__law_mixed p__law_mixed (defScope (top 32)) := ⟨rfl, rfl, rfl, by decide +kernel, rfl, by decide +kernel, by decide +kernel⟩
theorem bi__law_mixed : BindE "_law_mixed" (top 32) p__law_mixed := fun _ _ _ _ _ _ us hl => match us, hl with | [_, _], _ => rfl
abbrev N__law_pile : List Str := ["_law_script", "_law_k", "_law_cell", "_law_found", "_law_j"]
abbrev p__law_pile : List Str := ["_law_script", "_law_k"]
theorem sc__law_pile : FnScope N__law_pile p__law_pile (defScope (top 33)) := ⟨rfl, rfl, rfl, by decide +kernel, rfl, by decide +kernel, by decide +kernel⟩
theorem bi__law_pile : BindE "_law_pile" (top 33) p__law_pile := fun _ _ _ _ _ _ us hl => match us, hl with | [_, _], _ => rfl
abbrev N__law_take : List Str := ["_law_pile_here", "_law_size", "_law_digit"]
abbrev p__law_take : List Str := ["_law_pile_here", "_law_size"]
theorem sc__law_take : FnScope N__law_take p__law_take (defScope (top 34)) := ⟨rfl, rfl, rfl, by decide +kernel, rfl, by decide +kernel, by decide +kernel⟩
theorem bi__law_take : BindE "_law_take" (top 34) p__law_take := fun _ _ _ _ _ _ us hl => match us, hl with | [_, _], _ => rfl
abbrev N__law_grown : List Str := ["_law_pile_here", "_law_size", "_law_edges", "_law_many", "_law_turn", "_law_at", "_law_u", "_law_v"]
abbrev p__law_grown : List Str := ["_law_pile_here", "_law_size"]
theorem sc__law_grown : FnScope N__law_grown p__law_grown (defScope (top 41)) := ⟨rfl, rfl, rfl, by decide +kernel, rfl, by decide +kernel, by decide +kernel⟩
theorem bi__law_grown : BindE "_law_grown" (top 41) p__law_grown := fun _ _ _ _ _ _ us hl => match us, hl with | [_, _], _ => rfl
abbrev N__law_order_of : List Str := ["_law_pile_here", "_law_many", "_law_order", "_law_k"]
abbrev p__law_order_of : List Str := ["_law_pile_here", "_law_many"]
theorem sc__law_order_of : FnScope N__law_order_of p__law_order_of (defScope (top 35)) := ⟨rfl, rfl, rfl, by decide +kernel, rfl, by decide +kernel, by decide +kernel⟩
theorem bi__law_order_of : BindE "_law_order_of" (top 35) p__law_order_of := fun _ _ _ _ _ _ us hl => match us, hl with | [_, _], _ => rfl
abbrev N__law_shape : List Str := ["_law_pile_here", "_law_top", "_law_bound", "_law_many", "_law_order", "_law_pairs", "_law_r", "_law_i", "_law_j", "_law_begin"]
abbrev p__law_shape : List Str := ["_law_pile_here", "_law_top", "_law_bound"]
theorem sc__law_shape : FnScope N__law_shape p__law_shape (defScope (top 40)) := ⟨rfl, rfl, rfl, by decide +kernel, rfl, by decide +kernel, by decide +kernel⟩
theorem bi__law_shape : BindE "_law_shape" (top 40) p__law_shape := fun _ _ _ _ _ _ us hl => match us, hl with | [_, _, _], _ => rfl
abbrev N__law_text : List Str := ["_law_thing", "_law_lines", "_law_row", "_law_number"]
abbrev p__law_text : List Str := ["_law_thing"]
theorem sc__law_text : FnScope N__law_text p__law_text (defScope (top 47)) := ⟨rfl, rfl, rfl, by decide +kernel, rfl, by decide +kernel, by decide +kernel⟩
theorem bi__law_text : BindE "_law_text" (top 47) p__law_text := fun _ _ _ _ _ _ us hl => match us, hl with | [_], _ => rfl
abbrev N_is_whole : List Str := ["thing"]
abbrev p_is_whole : List Str := ["thing"]
theorem sc_is_whole : FnScope N_is_whole p_is_whole (defScope (top 13)) := ⟨rfl, rfl, rfl, by decide +kernel, rfl, by decide +kernel, by decide +kernel⟩
theorem bi_is_whole : BindE "is_whole" (top 13) p_is_whole := fun _ _ _ _ _ _ us hl => match us, hl with | [_], _ => rfl
abbrev N_is_place : List Str := ["many", "thing"]
abbrev p_is_place : List Str := ["many", "thing"]
theorem sc_is_place : FnScope N_is_place p_is_place (defScope (top 14)) := ⟨rfl, rfl, rfl, by decide +kernel, rfl, by decide +kernel, by decide +kernel⟩
theorem bi_is_place : BindE "is_place" (top 14) p_is_place := fun _ _ _ _ _ _ us hl => match us, hl with | [_, _], _ => rfl
abbrev N_is_pair : List Str := ["many", "end", "thing", "place"]
abbrev p_is_pair : List Str := ["many", "end", "thing"]
theorem sc_is_pair : FnScope N_is_pair p_is_pair (defScope (top 16)) := ⟨rfl, rfl, rfl, by decide +kernel, rfl, by decide +kernel, by decide +kernel⟩
theorem bi_is_pair : BindE "is_pair" (top 16) p_is_pair := fun _ _ _ _ _ _ us hl => match us, hl with | [_, _, _], _ => rfl
abbrev N_reached : List Str := ["pairs", "places", "found", "size", "u", "v", "place"]
abbrev p_reached : List Str := ["pairs", "places"]
theorem sc_reached : FnScope N_reached p_reached (defScope (top 17)) := ⟨rfl, rfl, rfl, by decide +kernel, rfl, by decide +kernel, by decide +kernel⟩
theorem bi_reached : BindE "reached" (top 17) p_reached := fun _ _ _ _ _ _ us hl => match us, hl with | [_, _], _ => rfl
abbrev N_has_round : List Str := ["pairs", "u", "v"]
abbrev p_has_round : List Str := ["pairs"]
theorem sc_has_round : FnScope N_has_round p_has_round (defScope (top 18)) := ⟨rfl, rfl, rfl, by decide +kernel, rfl, by decide +kernel, by decide +kernel⟩
theorem bi_has_round : BindE "has_round" (top 18) p_has_round := fun _ _ _ _ _ _ us hl => match us, hl with | [_], _ => rfl
abbrev N_is_right_shape : List Str := ["thing", "many", "begin", "end", "pairs", "pair"]
abbrev p_is_right_shape : List Str := ["thing"]
theorem sc_is_right_shape : FnScope N_is_right_shape p_is_right_shape (defScope (top 19)) := ⟨rfl, rfl, rfl, by decide +kernel, rfl, by decide +kernel, by decide +kernel⟩
theorem bi_is_right_shape : BindE "is_right_shape" (top 19) p_is_right_shape := fun _ _ _ _ _ _ us hl => match us, hl with | [_], _ => rfl
abbrev N_look_at_shape : List Str := ["shape"]
abbrev p_look_at_shape : List Str := ["shape"]
theorem sc_look_at_shape : FnScope N_look_at_shape p_look_at_shape (defScope (top 20)) := ⟨rfl, rfl, rfl, by decide +kernel, rfl, by decide +kernel, by decide +kernel⟩
theorem bi_look_at_shape : BindE "look_at_shape" (top 20) p_look_at_shape := fun _ _ _ _ _ _ us hl => match us, hl with | [_], _ => rfl
abbrev N_rows_text : List Str := ["word", "rows", "row", "number"]
abbrev p_rows_text : List Str := ["word", "rows"]
theorem sc_rows_text : FnScope N_rows_text p_rows_text (defScope (top 24)) := ⟨rfl, rfl, rfl, by decide +kernel, rfl, by decide +kernel, by decide +kernel⟩
theorem bi_rows_text : BindE "rows_text" (top 24) p_rows_text := fun _ _ _ _ _ _ us hl => match us, hl with | [_, _], _ => rfl
abbrev N_shape_text : List Str := ["shape", "pair"]
abbrev p_shape_text : List Str := ["shape"]
theorem sc_shape_text : FnScope N_shape_text p_shape_text (defScope (top 25)) := ⟨rfl, rfl, rfl, by decide +kernel, rfl, by decide +kernel, by decide +kernel⟩
theorem bi_shape_text : BindE "shape_text" (top 25) p_shape_text := fun _ _ _ _ _ _ us hl => match us, hl with | [_], _ => rfl
abbrev N_number_read : List Str := ["word", "figure"]
abbrev p_number_read : List Str := ["word"]
theorem sc_number_read : FnScope N_number_read p_number_read (defScope (top 26)) := ⟨rfl, rfl, rfl, by decide +kernel, rfl, by decide +kernel, by decide +kernel⟩
theorem bi_number_read : BindE "number_read" (top 26) p_number_read := fun _ _ _ _ _ _ us hl => match us, hl with | [_], _ => rfl
abbrev N_row_read : List Str := ["line", "word", "size", "words", "numbers", "one"]
abbrev p_row_read : List Str := ["line", "word", "size"]
theorem sc_row_read : FnScope N_row_read p_row_read (defScope (top 27)) := ⟨rfl, rfl, rfl, by decide +kernel, rfl, by decide +kernel, by decide +kernel⟩
theorem bi_row_read : BindE "row_read" (top 27) p_row_read := fun _ _ _ _ _ _ us hl => match us, hl with | [_, _, _], _ => rfl
abbrev N_rows_read : List Str := ["text", "head", "word", "size", "lines", "first", "rows", "number", "line", "row"]
abbrev p_rows_read : List Str := ["text", "head", "word", "size"]
theorem sc_rows_read : FnScope N_rows_read p_rows_read (defScope (top 28)) := ⟨rfl, rfl, rfl, by decide +kernel, rfl, by decide +kernel, by decide +kernel⟩
theorem bi_rows_read : BindE "rows_read" (top 28) p_rows_read := fun _ _ _ _ _ _ us hl => match us, hl with | [_, _, _, _], _ => rfl
abbrev N_read_shape : List Str := ["text", "shape"]
abbrev p_read_shape : List Str := ["text"]
theorem sc_read_shape : FnScope N_read_shape p_read_shape (defScope (top 29)) := ⟨rfl, rfl, rfl, by decide +kernel, rfl, by decide +kernel, by decide +kernel⟩
theorem bi_read_shape : BindE "read_shape" (top 29) p_read_shape := fun _ _ _ _ _ _ us hl => match us, hl with | [_], _ => rfl
abbrev N__law_pick : List Str := ["_law_pile_here", "_law_some"]
abbrev p__law_pick : List Str := ["_law_pile_here", "_law_some"]
theorem sc__law_pick : FnScope N__law_pick p__law_pick (defScope (top 36)) := ⟨rfl, rfl, rfl, by decide +kernel, rfl, by decide +kernel, by decide +kernel⟩
theorem bi__law_pick : BindE "_law_pick" (top 36) p__law_pick := fun _ _ _ _ _ _ us hl => match us, hl with | [_, _], _ => rfl
abbrev N__law_bent : List Str := ["_law_pile_here", "_law_text_here", "_law_signs", "_law_words", "_law_at", "_law_sign", "_law_way", "_law_mark", "_law_parts", "_law_spot"]
abbrev p__law_bent : List Str := ["_law_pile_here", "_law_text_here"]
theorem sc__law_bent : FnScope N__law_bent p__law_bent (defScope (top 46)) := ⟨rfl, rfl, rfl, by decide +kernel, rfl, by decide +kernel, by decide +kernel⟩
theorem bi__law_bent : BindE "_law_bent" (top 46) p__law_bent := fun _ _ _ _ _ _ us hl => match us, hl with | [_, _], _ => rfl
abbrev N__law_number_of : List Str := ["_law_word", "_law_sign"]
abbrev p__law_number_of : List Str := ["_law_word"]
theorem sc__law_number_of : FnScope N__law_number_of p__law_number_of (defScope (top 44)) := ⟨rfl, rfl, rfl, by decide +kernel, rfl, by decide +kernel, by decide +kernel⟩
theorem bi__law_number_of : BindE "_law_number_of" (top 44) p__law_number_of := fun _ _ _ _ _ _ us hl => match us, hl with | [_], _ => rfl
abbrev N__law_row_of : List Str := ["_law_line", "_law_word", "_law_size", "_law_words", "_law_numbers", "_law_one"]
abbrev p__law_row_of : List Str := ["_law_line", "_law_word", "_law_size"]
theorem sc__law_row_of : FnScope N__law_row_of p__law_row_of (defScope (top 45)) := ⟨rfl, rfl, rfl, by decide +kernel, rfl, by decide +kernel, by decide +kernel⟩
theorem bi__law_row_of : BindE "_law_row_of" (top 45) p__law_row_of := fun _ _ _ _ _ _ us hl => match us, hl with | [_, _, _], _ => rfl
abbrev N__law_whole : List Str := ["_law_thing"]
abbrev p__law_whole : List Str := ["_law_thing"]
theorem sc__law_whole : FnScope N__law_whole p__law_whole (defScope (top 37)) := ⟨rfl, rfl, rfl, by decide +kernel, rfl, by decide +kernel, by decide +kernel⟩
theorem bi__law_whole : BindE "_law_whole" (top 37) p__law_whole := fun _ _ _ _ _ _ us hl => match us, hl with | [_], _ => rfl
abbrev N__law_is_from : List Str := ["_law_thing", "_law_low"]
abbrev p__law_is_from : List Str := ["_law_thing", "_law_low"]
theorem sc__law_is_from : FnScope N__law_is_from p__law_is_from (defScope (top 38)) := ⟨rfl, rfl, rfl, by decide +kernel, rfl, by decide +kernel, by decide +kernel⟩
theorem bi__law_is_from : BindE "_law_is_from" (top 38) p__law_is_from := fun _ _ _ _ _ _ us hl => match us, hl with | [_, _], _ => rfl
abbrev N__law_is_place : List Str := ["_law_many", "_law_thing"]
abbrev p__law_is_place : List Str := ["_law_many", "_law_thing"]
theorem sc__law_is_place : FnScope N__law_is_place p__law_is_place (defScope (top 39)) := ⟨rfl, rfl, rfl, by decide +kernel, rfl, by decide +kernel, by decide +kernel⟩
theorem bi__law_is_place : BindE "_law_is_place" (top 39) p__law_is_place := fun _ _ _ _ _ _ us hl => match us, hl with | [_, _], _ => rfl
abbrev N__law_once : List Str := ["_law_some", "_law_kept", "_law_one"]
abbrev p__law_once : List Str := ["_law_some"]
theorem sc__law_once : FnScope N__law_once p__law_once (defScope (top 31)) := ⟨rfl, rfl, rfl, by decide +kernel, rfl, by decide +kernel, by decide +kernel⟩
theorem bi__law_once : BindE "_law_once" (top 31) p__law_once := fun _ _ _ _ _ _ us hl => match us, hl with | [_], _ => rfl
abbrev N__law_is_shape : List Str := ["_law_thing", "_law_many", "_law_begin", "_law_end", "_law_pairs", "_law_pair", "_law_there", "_law_turn", "_law_place"]
abbrev p__law_is_shape : List Str := ["_law_thing"]
theorem sc__law_is_shape : FnScope N__law_is_shape p__law_is_shape (defScope (top 42)) := ⟨rfl, rfl, rfl, by decide +kernel, rfl, by decide +kernel, by decide +kernel⟩
theorem bi__law_is_shape : BindE "_law_is_shape" (top 42) p__law_is_shape := fun _ _ _ _ _ _ us hl => match us, hl with | [_], _ => rfl
abbrev N__law_due : List Str := ["_law_text_here", "_law_lines", "_law_first", "_law_rows", "_law_k", "_law_row", "_law_thing"]
abbrev p__law_due : List Str := ["_law_text_here"]
theorem sc__law_due : FnScope N__law_due p__law_due (defScope (top 48)) := ⟨rfl, rfl, rfl, by decide +kernel, rfl, by decide +kernel, by decide +kernel⟩
theorem bi__law_due : BindE "_law_due" (top 48) p__law_due := fun _ _ _ _ _ _ us hl => match us, hl with | [_], _ => rfl
abbrev N__law_word_of : List Str := ["_law_error", "_law_found", "_law_words", "_law_told", "_law_word", "_law_truth"]
abbrev p__law_word_of : List Str := ["_law_error"]
theorem sc__law_word_of : FnScope N__law_word_of p__law_word_of (defScope (top 43)) := ⟨rfl, rfl, rfl, by decide +kernel, rfl, by decide +kernel, by decide +kernel⟩
theorem bi__law_word_of : BindE "_law_word_of" (top 43) p__law_word_of := fun _ _ _ _ _ _ us hl => match us, hl with | [_], _ => rfl
abbrev N__law_both : List Str := ["_law_text_here", "_law_due_here", "_law_found", "_law_error", "e"]
abbrev p__law_both : List Str := ["_law_text_here"]
theorem sc__law_both : FnScope N__law_both p__law_both (defScope (top 49)) := ⟨rfl, rfl, rfl, by decide +kernel, rfl, by decide +kernel, by decide +kernel⟩
theorem bi__law_both : BindE "_law_both" (top 49) p__law_both := fun _ _ _ _ _ _ us hl => match us, hl with | [_], _ => rfl
abbrev N_law : List Str := ["_law_script", "_law_k", "_law_pile_here", "_law_shape_here", "_law_kept", "_law_text_here", "_law_turn", "_law_bent_here", "_law_great", "_law_plain", "_law_odd", "_law_more", "_law_line", "_law_word"]
abbrev p_law : List Str := ["_law_script"]
theorem sc_law : FnScope N_law p_law (defScope (top 50)) := ⟨rfl, rfl, rfl, by decide +kernel, rfl, by decide +kernel, by decide +kernel⟩
theorem bi_law : BindE "law" (top 50) p_law := fun _ _ _ _ _ _ us hl => match us, hl with | [_], _ => rfl
theorem H__law_mixed (D : Def K mg "_law_mixed" (top 32)) (m_int : mg "int" = none) : Has P w K mg base "_law_mixed" p__law_mixed 1 F_l_mixed :=
  has_of (k := 0) D bi__law_mixed (N := N__law_mixed) sc__law_mixed rfl (by decide) fun f cdv A outer s H E c =>
  (sb_cons (z_set c.toCtx 2 (w_mod (w_int m_int (sa_cons (w_add (w_add (w_mul (w_mod (w_int m_int (sa_cons (w_v 0) sa_nil)) se_int) se_int) (w_mul (w_v 1) se_int)) se_int) sa_nil)) se_int))
  (sb_cons (z_set c.toCtx 2 (w_mod (w_int m_int (sa_cons (w_mul (w_v 2) (w_v 2)) sa_nil)) se_int))
  (sb_one (ss_ret (w_mod (w_int m_int (sa_cons (w_mul (w_v 2) (w_add (w_v 2) se_int)) sa_nil)) se_int)))))
theorem H__law_pile (D : Def K mg "_law_pile" (top 33)) (m_int : mg "int" = none) (m_len : mg "len" = none) (m_range : mg "range" = none) (H__law_mixed : Has P w K mg base "_law_mixed" p__law_mixed 1 F_l_mixed) : HasF P w K mg base "_law_pile" p__law_pile 2 F_l_pile :=
  hasF_of (k := 1) D bi__law_pile (N := N__law_pile) sc__law_pile rfl (by decide) fun f cdv A outer s H E c =>
  (sb_cons (z_set c.toCtx 2 se_int)
  (sb_cons (ss_if (t_lt c.toCtx (w_v 1) (w_len m_len (sa_cons (w_v 0) sa_nil))) (sb_one (z_set c.toCtx 2 (w_ix c.toCtx (w_v 0) (w_v 1)))) sb_nil)
  (sb_cons (ss_if (t_ge c.toCtx (w_v 2) (w_pow se_int se_int)) (sb_one (ss_retF (sf_lst (sa_cons (w_mod (w_int m_int (sa_cons (w_sub (w_v 2) (w_pow se_int se_int)) sa_nil)) (w_mul (w_mul (w_mul (w_pow se_int se_int) (w_pow se_int se_int)) (w_pow se_int se_int)) (w_pow se_int se_int))) sa_nil)))) sb_nil)
  (sb_cons (z_set c.toCtx 3 se_int)
  (sb_cons (z_for c (si_r1 rfl m_range (sa_cons se_int sa_nil)) (g_name c.toCtx 4) (sb_one (z_set c.toCtx 3 (w_add (w_mul (w_v 3) se_int) (w_call c.toCtx (H__law_mixed) (sa_cons (w_v 2) (sa_cons (w_add (w_add (w_mul se_int (w_v 1)) (w_mul se_int (w_v 4))) (w_mul (w_v 4) (w_v 4))) sa_nil)) )))))
  (sb_one (ss_retF (sf_lst (sa_cons (w_v 3) sa_nil)))))))))
theorem H__law_take (D : Def K mg "_law_take" (top 34)) (m_int : mg "int" = none) : Has P w K mg base "_law_take" p__law_take 1 F_l_take :=
  has_of (k := 0) D bi__law_take (N := N__law_take) sc__law_take rfl (by decide) fun f cdv A outer s H E c =>
  (sb_cons (z_set c.toCtx 2 (w_mod (w_int m_int (sa_cons (w_ix c.toCtx (w_v 0) se_int) sa_nil)) (w_v 1)))
  (sb_cons (ss_asg (w_div (w_ix c.toCtx (w_v 0) se_int) (w_v 1)) (sg_ix c.toCtx.u1 (w_v 0) se_int))
  (sb_one (ss_ret (w_v 2)))))
theorem H__law_grown (D : Def K mg "_law_grown" (top 41)) (m_len : mg "len" = none) (m_range : mg "range" = none) (m_tuple : mg "tuple" = none) (H__law_take : Has P w K mg base "_law_take" p__law_take 1 F_l_take) : Has P w K mg base "_law_grown" p__law_grown 2 F_l_grown :=
  has_of (k := 1) D bi__law_grown (N := N__law_grown) sc__law_grown rfl (by decide) fun f cdv A outer s H E c =>
  (sb_cons (z_set c.toCtx 2 (se_dat (sf_lst (sa_cons (se_tup (sa_cons se_int (sa_cons se_int sa_nil))) sa_nil))))
  (sb_cons (z_set c.toCtx 3 se_int)
  (sb_cons (z_for c (si_r1 rfl m_range (sa_cons (w_v 1) sa_nil)) (g_name c.toCtx 4) (sb_cons (z_set c.toCtx 5 (w_call c.toCtx (H__law_take) (sa_cons (w_v 0) (sa_cons (w_len m_len (sa_cons (w_v 2) sa_nil)) sa_nil)) ))
  (sb_cons (ss_asg (w_ix c.toCtx (w_v 2) (w_v 5)) (sg_tup c.toCtx.cm (sgs_cons (g_name c.toCtx 6) (sgs_cons (g_name c.toCtx 7) sgs_nil))))
  (sb_one (ss_if (st_w (sw_and (t_eq c.toCtx (w_call c.toCtx (H__law_take) (sa_cons (w_v 0) (sa_cons se_int sa_nil)) ) se_int) (sw_and1 (t_lt c.toCtx (w_v 3) se_int)))) (sb_cons (z_set c.toCtx 2 (w_add (w_add (se_sl (w_v 2) so_none (so_some (w_v 5))) (se_dat (sf_lst (sa_cons (se_tup (sa_cons (w_v 6) (sa_cons (w_v 3) sa_nil))) (sa_cons (se_tup (sa_cons (w_v 3) (sa_cons (w_v 7) sa_nil))) sa_nil))))) (se_sl (w_v 2) (so_some (w_add (w_v 5) se_int)) so_none)))
  (sb_one (z_set c.toCtx 3 (w_add (w_v 3) se_int)))) (sb_one (z_set c.toCtx 2 (w_add (w_add (se_sl (w_v 2) so_none (so_some (w_v 5))) (se_dat (sf_lst (sa_cons (se_tup (sa_cons (w_v 6) (sa_cons (w_v 7) sa_nil))) sa_nil)))) (se_sl (w_v 2) (so_some (w_v 5)) so_none)))))))))
  (sb_one (ss_ret (se_tup (sa_cons (w_v 3) (sa_cons se_int (sa_cons se_int (sa_cons (w_tuple m_tuple (sa_cons (w_v 2) sa_nil)) sa_nil))))))))))
theorem H__law_order_of (D : Def K mg "_law_order_of" (top 35)) (m_range : mg "range" = none) (H__law_take : Has P w K mg base "_law_take" p__law_take 1 F_l_take) : Has P w K mg base "_law_order_of" p__law_order_of 2 F_l_order_of :=
  has_of (k := 1) D bi__law_order_of (N := N__law_order_of) sc__law_order_of rfl (by decide) fun f cdv A outer s H E c =>
  (sb_cons (z_set c.toCtx 2 (se_new (sf_lst sa_nil)))
  (sb_cons (z_for c (si_r1 rfl m_range (sa_cons (w_v 1) sa_nil)) (g_name c.toCtx 3) (sb_one (ss_expr (se_meth PySem.F.plainAttrs_list PySem.F.slot_list_insert PySem.F.type_list_insert mt_insert ok_insert ty_list (w_v 2) (sa_cons (w_call c.toCtx (H__law_take) (sa_cons (w_v 0) (sa_cons (w_add (w_v 3) se_int) sa_nil)) ) (sa_cons (w_v 3) sa_nil))))))
  (sb_one (ss_ret (w_v 2)))))
theorem H__law_shape (D : Def K mg "_law_shape" (top 40)) (m_range : mg "range" = none) (m_tuple : mg "tuple" = none) (H__law_take : Has P w K mg base "_law_take" p__law_take 1 F_l_take) (H__law_order_of : Has P w K mg base "_law_order_of" p__law_order_of 2 F_l_order_of) : Has P w K mg base "_law_shape" p__law_shape 3 F_l_shape :=
  has_of (k := 2) D bi__law_shape (N := N__law_shape) sc__law_shape rfl (by decide) fun f cdv A outer s H E c =>
  (sb_cons (z_set c.toCtx 3 (w_add se_int (w_call c.toCtx (H__law_take) (sa_cons (w_v 0) (sa_cons (w_sub (w_v 1) se_int) sa_nil)) )))
  (sb_cons (z_set c.toCtx 4 (w_call c.toCtx (H__law_order_of) (sa_cons (w_v 0) (sa_cons (w_v 3) sa_nil)) ))
  (sb_cons (z_set c.toCtx 5 (se_new (sf_lst sa_nil)))
  (sb_cons (z_for c (si_r1 rfl m_range (sa_cons (w_call c.toCtx (H__law_take) (sa_cons (w_v 0) (sa_cons (w_add (w_v 2) se_int) sa_nil)) ) sa_nil)) (g_name c.toCtx 6) (sb_cons (z_set c.toCtx 7 (w_call c.toCtx (H__law_take) (sa_cons (w_v 0) (sa_cons (w_sub (w_v 3) se_int) sa_nil)) ))
  (sb_cons (z_set c.toCtx 8 (w_add (w_add (w_v 7) se_int) (w_call c.toCtx (H__law_take) (sa_cons (w_v 0) (sa_cons (w_sub (w_sub (w_v 3) se_int) (w_v 7)) sa_nil)) )))
  (sb_one (ss_expr (se_append (w_v 5) (sa_cons (se_tup (sa_cons (w_ix c.toCtx (w_v 4) (w_v 7)) (sa_cons (w_ix c.toCtx (w_v 4) (w_v 8)) sa_nil))) sa_nil)))))))
  (sb_cons (z_set c.toCtx 9 (w_ix c.toCtx (se_dat (sf_lst (sa_cons se_int (sa_cons se_int (sa_cons se_int (sa_cons (w_call c.toCtx (H__law_take) (sa_cons (w_v 0) (sa_cons (w_sub (w_v 3) se_int) sa_nil)) ) sa_nil)))))) (w_call c.toCtx (H__law_take) (sa_cons (w_v 0) (sa_cons se_int sa_nil)) )))
  (sb_one (ss_ret (se_tup (sa_cons (w_v 3) (sa_cons (w_ix c.toCtx (w_v 4) (w_v 9)) (sa_cons (w_ix c.toCtx (w_v 4) (se_neg se_int)) (sa_cons (w_tuple m_tuple (sa_cons (w_v 5) sa_nil)) sa_nil))))))))))))
theorem H__law_text (D : Def K mg "_law_text" (top 47)) (m_str : mg "str" = none) : Has P w K mg base "_law_text" p__law_text 1 F_l_text_v2 :=
  has_of (k := 0) D bi__law_text (N := N__law_text) sc__law_text rfl (by decide) fun f cdv A outer s H E c =>
  (sb_cons (z_set c.toCtx 1 (se_new (sf_lst (sa_cons (se_join se_str (w_add (se_dat (sf_lst (sa_cons se_str sa_nil))) (se_dat (sf_comp c.toCtx.cm c.toCtx.nd (own := [("_law_number", 3)]) (si_v (se_sl (w_v 0) so_none (so_some se_int))) (blkOk_by (by rfl)) (by decide) (fun s1 Z1 D1 l1 p1 => (g_name (Ctx.bk c.toCtx s1 Z1 _ _ p1) 3)) (fun s1 Z1 D1 l1 p1 => sts_nil) (fun s1 Z1 D1 l1 p1 => (w_str m_str (sa_cons (w_v 3) sa_nil))))))) sa_nil))))
  (sb_cons (z_for c (si_v (w_ix c.toCtx (w_v 0) se_int)) (g_name c.toCtx 2) (sb_one (ss_expr (se_append (w_v 1) (sa_cons (se_join se_str (w_add (se_dat (sf_lst (sa_cons se_str sa_nil))) (se_dat (sf_comp c.toCtx.cm c.toCtx.nd (own := [("_law_number", 3)]) (si_v (w_v 2)) (blkOk_by (by rfl)) (by decide) (fun s2 Z2 D2 l2 p2 => (g_name (Ctx.bk c.toCtx s2 Z2 _ _ p2) 3)) (fun s2 Z2 D2 l2 p2 => sts_nil) (fun s2 Z2 D2 l2 p2 => (w_str m_str (sa_cons (w_v 3) sa_nil))))))) sa_nil)))))
  (sb_one (ss_ret (se_join se_str (w_v 1))))))
theorem H_is_whole (D : Def K mg "is_whole" (top 13)) (m_bool : mg "bool" = none) (m_int : mg "int" = none) (m_isinstance : mg "isinstance" = none) : Has P w K mg base "is_whole" p_is_whole 1 F_is_whole :=
  has_of (k := 0) D bi_is_whole (N := N_is_whole) sc_is_whole rfl (by decide) fun f cdv A outer s H E c =>
  (sb_one (ss_ret (se_and (se_isi rfl m_isinstance rfl m_int rfl kit_int (w_v 0)) (se_and (se_not (se_isi rfl m_isinstance rfl m_bool rfl kit_bool (w_v 0))) (se_one (w_ge c.toCtx (w_v 0) se_int))))))
theorem H_is_place (D : Def K mg "is_place" (top 14)) (H_is_whole : Has P w K mg base "is_whole" p_is_whole 1 F_is_whole) : Has P w K mg base "is_place" p_is_place 2 F_is_place :=
  has_of (k := 1) D bi_is_place (N := N_is_place) sc_is_place rfl (by decide) fun f cdv A outer s H E c =>
  (sb_one (ss_ret (se_and (w_call c.toCtx (H_is_whole) (sa_cons (w_v 1) sa_nil) ) (se_one (w_lt c.toCtx (w_v 1) (w_v 0))))))
theorem H_is_pair (D : Def K mg "is_pair" (top 16)) (m_all : mg "all" = none) (m_isinstance : mg "isinstance" = none) (m_len : mg "len" = none) (m_tuple : mg "tuple" = none) (H_is_place : Has P w K mg base "is_place" p_is_place 2 F_is_place) : Has P w K mg base "is_pair" p_is_pair 3 F_is_pair :=
  has_of (k := 2) D bi_is_pair (N := N_is_pair) sc_is_pair rfl (by decide) fun f cdv A outer s H E c =>
  (sb_cons (ss_if (st_w (sw_or (st_not (st_val (se_isi rfl m_isinstance rfl m_tuple rfl kit_tuple (w_v 2)))) (sw_or (t_ne c.toCtx (w_len m_len (sa_cons (w_v 2) sa_nil)) se_int) (sw_or1 (st_not (st_val (w_all c.toCtx m_all (sa_cons (se_dat (sf_comp c.toCtx.cm c.toCtx.nd (own := [("place", 3)]) (si_v (w_v 2)) (blkOk_by (by rfl)) (by decide) (fun s1 Z1 D1 l1 p1 => (g_name (Ctx.bk c.toCtx s1 Z1 _ _ p1) 3)) (fun s1 Z1 D1 l1 p1 => sts_nil) (fun s1 Z1 D1 l1 p1 => (w_call (Ctx.bk c.toCtx s1 Z1 _ _ p1) (H_is_place) (sa_cons (w_v 0) (sa_cons (w_v 3) sa_nil)) )))) sa_nil)))))))) (sb_one (ss_ret se_bl)) sb_nil)
  (sb_one (ss_ret (se_and (w_ne c.toCtx (w_ix c.toCtx (w_v 2) se_int) (w_ix c.toCtx (w_v 2) se_int)) (se_one (w_ne c.toCtx (w_ix c.toCtx (w_v 2) se_int) (w_v 1)))))))
theorem H_reached (D : Def K mg "reached" (top 17)) (m_len : mg "len" = none) : Has P w K mg base "reached" p_reached 1 F_reached :=
  has_of (k := 0) D bi_reached (N := N_reached) sc_reached rfl (by decide) fun f cdv A outer s H E c =>
  (sb_cons (by first | exact ss_newDcomp c.toCtx.cm c.toCtx.nd (i := 2) rfl rfl rfl (own := [("place", 6)]) (si_v (w_v 1)) (blkOk_by (by rfl)) (by decide) (fun s2 Z2 D2 l2 p2 => (g_name (Ctx.bk c.toCtx s2 Z2 _ _ p2) 6)) (fun s2 Z2 D2 l2 p2 => sts_nil) (fun s2 Z2 D2 l2 p2 => (w_v 6)) (fun s2 Z2 D2 l2 p2 => se_bl) | exact (z_set c.toCtx 2 (se_new (sf_dcomp c.toCtx.cm c.toCtx.nd (own := [("place", 6)]) (si_v (w_v 1)) (blkOk_by (by rfl)) (by decide) (fun s1 Z1 D1 l1 p1 => (g_name (Ctx.bk c.toCtx s1 Z1 _ _ p1) 6)) (fun s1 Z1 D1 l1 p1 => sts_nil) (fun s1 Z1 D1 l1 p1 => (w_v 6)) (fun s1 Z1 D1 l1 p1 => se_bl)))))
  (sb_cons (z_set c.toCtx 3 se_int)
  (sb_cons (z_while c (t_ne c.toCtx (w_v 3) (w_len m_len (sa_cons (w_v 2) sa_nil))) (sb_cons (z_set c.toCtx 3 (w_len m_len (sa_cons (w_v 2) sa_nil)))
  (sb_one (z_for c (si_v (w_v 0)) (sg_tup c.toCtx.cm (sgs_cons (g_name c.toCtx 4) (sgs_cons (g_name c.toCtx 5) sgs_nil))) (sb_one (ss_if (t_in c.toCtx (w_v 4) (w_v 2)) (sb_one (ss_asg se_bl (sg_ix c.toCtx.u1 (w_v 2) (w_v 5)))) sb_nil))))))
  (sb_one (ss_ret (w_v 2))))))
theorem H_has_round (D : Def K mg "has_round" (top 18)) (m_any : mg "any" = none) (H_reached : Has P w K mg base "reached" p_reached 1 F_reached) : Has P w K mg base "has_round" p_has_round 2 F_has_round :=
  has_of (k := 1) D bi_has_round (N := N_has_round) sc_has_round rfl (by decide) fun f cdv A outer s H E c =>
  (sb_one (ss_ret (w_any c.toCtx m_any (sa_cons (se_dat (sf_comp c.toCtx.cm c.toCtx.nd (own := [("u", 1), ("v", 2)]) (si_v (w_v 0)) (blkOk_by (by rfl)) (by decide) (fun s1 Z1 D1 l1 p1 => (sg_tup (Ctx.bk c.toCtx s1 Z1 _ _ p1).cm (sgs_cons (g_name (Ctx.bk c.toCtx s1 Z1 _ _ p1) 1) (sgs_cons (g_name (Ctx.bk c.toCtx s1 Z1 _ _ p1) 2) sgs_nil)))) (fun s1 Z1 D1 l1 p1 => sts_nil) (fun s1 Z1 D1 l1 p1 => (w_in (Ctx.bk c.toCtx s1 Z1 _ _ p1) (w_v 1) (w_call (Ctx.bk c.toCtx s1 Z1 _ _ p1) (H_reached) (sa_cons (w_v 0) (sa_cons (se_dat (sf_lst (sa_cons (w_v 2) sa_nil))) sa_nil)) ))))) sa_nil))))
theorem H_is_right_shape (D : Def K mg "is_right_shape" (top 19)) (m_all : mg "all" = none) (m_isinstance : mg "isinstance" = none) (m_len : mg "len" = none) (m_tuple : mg "tuple" = none) (H_is_whole : Has P w K mg base "is_whole" p_is_whole 1 F_is_whole) (H_is_place : Has P w K mg base "is_place" p_is_place 2 F_is_place) (H_is_pair : Has P w K mg base "is_pair" p_is_pair 3 F_is_pair) (H_has_round : Has P w K mg base "has_round" p_has_round 2 F_has_round) : Has P w K mg base "is_right_shape" p_is_right_shape 4 F_is_right_shape :=
  has_of (k := 3) D bi_is_right_shape (N := N_is_right_shape) sc_is_right_shape rfl (by decide) fun f cdv A outer s H E c =>
  (sb_cons (ss_if (st_w (sw_or (st_not (st_val (se_isi rfl m_isinstance rfl m_tuple rfl kit_tuple (w_v 0)))) (sw_or (t_ne c.toCtx (w_len m_len (sa_cons (w_v 0) sa_nil)) se_int) (sw_or (st_not (st_val (w_call c.toCtx (H_is_whole) (sa_cons (w_ix c.toCtx (w_v 0) se_int) sa_nil) ))) (sw_or1 (t_lt c.toCtx (w_ix c.toCtx (w_v 0) se_int) se_int)))))) (sb_one (ss_ret se_bl)) sb_nil)
  (sb_cons (ss_asg (w_v 0) (sg_tup c.toCtx.cm (sgs_cons (g_name c.toCtx 1) (sgs_cons (g_name c.toCtx 2) (sgs_cons (g_name c.toCtx 3) (sgs_cons (g_name c.toCtx 4) sgs_nil))))))
  (sb_cons (ss_if (st_w (sw_or (st_not (st_val (w_call c.toCtx (H_is_place) (sa_cons (w_v 1) (sa_cons (w_v 2) sa_nil)) ))) (sw_or (st_not (st_val (w_call c.toCtx (H_is_place) (sa_cons (w_v 1) (sa_cons (w_v 3) sa_nil)) ))) (sw_or (t_eq c.toCtx (w_v 2) (w_v 3)) (sw_or1 (st_not (st_val (se_isi rfl m_isinstance rfl m_tuple rfl kit_tuple (w_v 4))))))))) (sb_one (ss_ret se_bl)) sb_nil)
  (sb_one (ss_ret (se_and (w_all c.toCtx m_all (sa_cons (se_dat (sf_comp c.toCtx.cm c.toCtx.nd (own := [("pair", 5)]) (si_v (w_v 4)) (blkOk_by (by rfl)) (by decide) (fun s1 Z1 D1 l1 p1 => (g_name (Ctx.bk c.toCtx s1 Z1 _ _ p1) 5)) (fun s1 Z1 D1 l1 p1 => sts_nil) (fun s1 Z1 D1 l1 p1 => (w_call (Ctx.bk c.toCtx s1 Z1 _ _ p1) (H_is_pair) (sa_cons (w_v 1) (sa_cons (w_v 3) (sa_cons (w_v 5) sa_nil))) )))) sa_nil)) (se_one (se_not (w_call c.toCtx (H_has_round) (sa_cons (w_v 4) sa_nil) )))))))))
theorem H_look_at_shape (D : Def K mg "look_at_shape" (top 20)) (E_NoShape : ExcF K mg "NoShape") (H_is_right_shape : Has P w K mg base "is_right_shape" p_is_right_shape 4 F_is_right_shape) : Has P w K mg base "look_at_shape" p_look_at_shape 5 F_look_at_shape :=
  has_of (k := 4) D bi_look_at_shape (N := N_look_at_shape) sc_look_at_shape rfl (by decide) fun f cdv A outer s H E c =>
  (sb_one (ss_if (st_not (st_val (w_call c.toCtx (H_is_right_shape) (sa_cons (w_v 0) sa_nil) ))) (sb_one (ss_raise c.toCtx E_NoShape)) sb_nil))
theorem H_rows_text (D : Def K mg "rows_text" (top 24)) (m_str : mg "str" = none) : Has P w K mg base "rows_text" p_rows_text 1 F_rows_text :=
  has_of (k := 0) D bi_rows_text (N := N_rows_text) sc_rows_text rfl (by decide) fun f cdv A outer s H E c =>
  (sb_one (ss_ret (se_join se_str (se_dat (sf_comp c.toCtx.cm c.toCtx.nd (own := [("row", 2)]) (si_v (w_v 1)) (blkOk_by (by rfl)) (by decide) (fun s1 Z1 D1 l1 p1 => (g_name (Ctx.bk c.toCtx s1 Z1 _ _ p1) 2)) (fun s1 Z1 D1 l1 p1 => sts_nil) (fun s1 Z1 D1 l1 p1 => (se_join se_str (w_add (se_dat (sf_lst (sa_cons (w_v 0) sa_nil))) (se_dat (sf_comp (Ctx.bk c.toCtx s1 Z1 _ _ p1).cm (Ctx.bk c.toCtx s1 Z1 _ _ p1).nd (own := [("number", 3)]) (si_v (w_v 2)) (blkOk_by (by rfl)) (by decide) (fun s2 Z2 D2 l2 p2 => (g_name (Ctx.bk (Ctx.bk c.toCtx s1 Z1 _ _ p1) s2 Z2 _ _ p2) 3)) (fun s2 Z2 D2 l2 p2 => sts_nil) (fun s2 Z2 D2 l2 p2 => (w_str m_str (sa_cons (w_v 3) sa_nil)))))))))))))
theorem H_shape_text (D : Def K mg "shape_text" (top 25)) (H_look_at_shape : Has P w K mg base "look_at_shape" p_look_at_shape 5 F_look_at_shape) (H_rows_text : Has P w K mg base "rows_text" p_rows_text 1 F_rows_text) : Has P w K mg base "shape_text" p_shape_text 6 F_shape_text :=
  has_of (k := 5) D bi_shape_text (N := N_shape_text) sc_shape_text rfl (by decide) fun f cdv A outer s H E c =>
  (sb_cons (ss_expr (w_call c.toCtx (H_look_at_shape) (sa_cons (w_v 0) sa_nil) ))
  (sb_one (ss_ret (se_join se_str (w_add (se_dat (sf_lst (sa_cons (w_call c.toCtx (H_rows_text) (sa_cons se_str (sa_cons (se_dat (sf_lst (sa_cons (se_sl (w_v 0) so_none (so_some se_int)) sa_nil))) sa_nil)) ) sa_nil))) (se_dat (sf_comp c.toCtx.cm c.toCtx.nd (own := [("pair", 1)]) (si_v (w_ix c.toCtx (w_v 0) se_int)) (blkOk_by (by rfl)) (by decide) (fun s1 Z1 D1 l1 p1 => (g_name (Ctx.bk c.toCtx s1 Z1 _ _ p1) 1)) (fun s1 Z1 D1 l1 p1 => sts_nil) (fun s1 Z1 D1 l1 p1 => (w_call (Ctx.bk c.toCtx s1 Z1 _ _ p1) (H_rows_text) (sa_cons se_str (sa_cons (se_dat (sf_lst (sa_cons (w_v 1) sa_nil))) sa_nil)) )))))))))
theorem H_number_read (D : Def K mg "number_read" (top 26)) (m_all : mg "all" = none) (m_int : mg "int" = none) (m_len : mg "len" = none) {t_FIGURES : Tok} (g_FIGURES : mg "FIGURES" = some (.str "0123456789" t_FIGURES)) {t_MOST_FIGURES : Tok} (g_MOST_FIGURES : mg "MOST_FIGURES" = some (.int (30) t_MOST_FIGURES)) : Has P w K mg base "number_read" p_number_read 1 F_number_read :=
  has_of (k := 0) D bi_number_read (N := N_number_read) sc_number_read rfl (by decide) fun f cdv A outer s H E c =>
  (sb_cons (ss_if (st_w (sw_or (t_eq c.toCtx (w_v 0) se_str) (sw_or (t_gt c.toCtx (w_len m_len (sa_cons (w_v 0) sa_nil)) (se_globI rfl g_MOST_FIGURES)) (sw_or1 (st_not (st_val (w_all c.toCtx m_all (sa_cons (se_dat (sf_comp c.toCtx.cm c.toCtx.nd (own := [("figure", 1)]) (si_s (w_v 0)) (blkOk_by (by rfl)) (by decide) (fun s1 Z1 D1 l1 p1 => (g_name (Ctx.bk c.toCtx s1 Z1 _ _ p1) 1)) (fun s1 Z1 D1 l1 p1 => sts_nil) (fun s1 Z1 D1 l1 p1 => (w_in (Ctx.bk c.toCtx s1 Z1 _ _ p1) (w_v 1) (se_globS rfl g_FIGURES))))) sa_nil)))))))) (sb_one (ss_ret se_non)) sb_nil)
  (sb_one (ss_ret (se_ifExp (st_w (sw_and (t_eq c.toCtx (w_ix c.toCtx (w_v 0) se_int) se_str) (sw_and1 (t_ne c.toCtx (w_v 0) se_str)))) se_non (w_intS m_int (sa_cons (w_v 0) sa_nil))))))
theorem H_row_read (D : Def K mg "row_read" (top 27)) (m_len : mg "len" = none) (m_tuple : mg "tuple" = none) (H_number_read : Has P w K mg base "number_read" p_number_read 1 F_number_read) : Has P w K mg base "row_read" p_row_read 2 F_row_read :=
  has_of (k := 1) D bi_row_read (N := N_row_read) sc_row_read rfl (by decide) fun f cdv A outer s H E c =>
  (sb_cons (z_set c.toCtx 3 (se_dat (sf_split (w_v 0) se_str)))
  (sb_cons (by first | exact ss_setComp c.toCtx.cm c.toCtx.nd (i := 4) rfl rfl rfl (own := [("one", 5)]) (si_v (se_sl (w_v 3) (so_some se_int) so_none)) (blkOk_by (by rfl)) (by decide) (fun s2 Z2 D2 l2 p2 => (g_name (Ctx.bk c.toCtx s2 Z2 _ _ p2) 5)) (fun s2 Z2 D2 l2 p2 => sts_nil) (fun s2 Z2 D2 l2 p2 => (w_call (Ctx.bk c.toCtx s2 Z2 _ _ p2) (H_number_read) (sa_cons (w_v 5) sa_nil) )) | exact (z_set c.toCtx 4 (se_dat (sf_comp c.toCtx.cm c.toCtx.nd (own := [("one", 5)]) (si_v (se_sl (w_v 3) (so_some se_int) so_none)) (blkOk_by (by rfl)) (by decide) (fun s1 Z1 D1 l1 p1 => (g_name (Ctx.bk c.toCtx s1 Z1 _ _ p1) 5)) (fun s1 Z1 D1 l1 p1 => sts_nil) (fun s1 Z1 D1 l1 p1 => (w_call (Ctx.bk c.toCtx s1 Z1 _ _ p1) (H_number_read) (sa_cons (w_v 5) sa_nil) ))))))
  (sb_one (ss_ret (se_ifExp (st_w (sw_and (t_eq c.toCtx (w_ix c.toCtx (w_v 3) se_int) (w_v 1)) (sw_and (t_eq c.toCtx (w_len m_len (sa_cons (w_v 4) sa_nil)) (w_v 2)) (sw_and1 (t_notIn c.toCtx se_non (w_v 4)))))) (w_tuple m_tuple (sa_cons (w_v 4) sa_nil)) se_non)))))
theorem H_rows_read (D : Def K mg "rows_read" (top 28)) (m_enumerate : mg "enumerate" = none) (m_tuple : mg "tuple" = none) (TX : TxtF K mg) (H_row_read : Has P w K mg base "row_read" p_row_read 2 F_row_read) : Has P w K mg base "rows_read" p_rows_read 4 F_rows_read :=
  has_of (k := 3) D bi_rows_read (N := N_rows_read) sc_rows_read rfl (by decide) fun f cdv A outer s H E c =>
  (sb_cons (z_set c.toCtx 4 (se_dat (sf_split (w_v 0) se_str)))
  (sb_cons (z_set c.toCtx 5 (w_call c.toCtx (H_row_read) (sa_cons (w_ix c.toCtx (w_v 4) se_int) (sa_cons (w_v 1) (sa_cons se_int sa_nil))) ))
  (sb_cons (ss_if (t_isN c.toCtx (w_v 5) se_non) (sb_one (ss_raiseV c.toCtx TX (sa_cons se_int sa_nil))) sb_nil)
  (sb_cons (z_set c.toCtx 6 (se_new (sf_lst sa_nil)))
  (sb_cons (z_for c (si_enumk rfl m_enumerate (sa_cons (se_sl (w_v 4) (so_some se_int) so_none) (sa_cons se_int sa_nil))) (sg_tup c.toCtx.cm (sgs_cons (g_name c.toCtx 7) (sgs_cons (g_name c.toCtx 8) sgs_nil))) (sb_cons (z_set c.toCtx 9 (w_call c.toCtx (H_row_read) (sa_cons (w_v 8) (sa_cons (w_v 2) (sa_cons (w_v 3) sa_nil))) ))
  (sb_cons (ss_if (t_isN c.toCtx (w_v 9) se_non) (sb_one (ss_raiseV c.toCtx TX (sa_cons (w_v 7) sa_nil))) sb_nil)
  (sb_one (ss_expr (se_append (w_v 6) (sa_cons (w_v 9) sa_nil)))))))
  (sb_one (ss_ret (se_tup (sa_star (w_v 5) (sa_cons (w_tuple m_tuple (sa_cons (w_v 6) sa_nil)) sa_nil))))))))))
theorem H_read_shape (D : Def K mg "read_shape" (top 29)) (m_len : mg "len" = none) (TX : TxtF K mg) (H_rows_read : Has P w K mg base "rows_read" p_rows_read 4 F_rows_read) (H_is_right_shape : Has P w K mg base "is_right_shape" p_is_right_shape 4 F_is_right_shape) : Has P w K mg base "read_shape" p_read_shape 6 F_read_shape :=
  has_of (k := 5) D bi_read_shape (N := N_read_shape) sc_read_shape rfl (by decide) fun f cdv A outer s H E c =>
  (sb_cons (z_set c.toCtx 1 (w_call c.toCtx (H_rows_read) (sa_cons (w_v 0) (sa_cons se_str (sa_cons se_str (sa_cons se_int sa_nil)))) ))
  (sb_cons (ss_if (st_not (st_val (w_call c.toCtx (H_is_right_shape) (sa_cons (w_v 1) sa_nil) ))) (sb_one (ss_raiseV c.toCtx TX (sa_cons (w_add (w_len m_len (sa_cons (se_dat (sf_split (w_v 0) se_str)) sa_nil)) se_int) sa_nil))) sb_nil)
  (sb_one (ss_ret (w_v 1)))))
theorem H__law_pick (D : Def K mg "_law_pick" (top 36)) (m_len : mg "len" = none) (H__law_take : Has P w K mg base "_law_take" p__law_take 1 F_l_take) : Has P w K mg base "_law_pick" p__law_pick 2 F_l_pick :=
  has_of (k := 1) D bi__law_pick (N := N__law_pick) sc__law_pick rfl (by decide) fun f cdv A outer s H E c =>
  (sb_one (ss_ret (w_ix c.toCtx (w_v 1) (w_call c.toCtx (H__law_take) (sa_cons (w_v 0) (sa_cons (w_len m_len (sa_cons (w_v 1) sa_nil)) sa_nil)) ))))
theorem H__law_bent (D : Def K mg "_law_bent" (top 46)) (m_len : mg "len" = none) (H__law_take : Has P w K mg base "_law_take" p__law_take 1 F_l_take) (H__law_pick : Has P w K mg base "_law_pick" p__law_pick 2 F_l_pick) : Has P w K mg base "_law_bent" p__law_bent 3 F_l_bent_v5 :=
  has_of (k := 2) D bi__law_bent (N := N__law_bent) sc__law_bent rfl (by decide) fun f cdv A outer s H E c =>
  (sb_cons (z_set c.toCtx 2 se_str)
  (sb_cons (z_set c.toCtx 3 (se_dat (sf_lst (sa_cons se_str (sa_cons se_str (sa_cons se_str (sa_cons se_str (sa_cons se_str (sa_cons se_str (sa_cons se_str (sa_cons se_str (sa_cons se_str (sa_cons se_str (sa_cons (w_mulS se_str se_int) (sa_cons se_str sa_nil)))))))))))))))
  (sb_cons (z_set c.toCtx 3 (w_add (w_v 3) (se_dat (sf_lst (sa_cons se_str (sa_cons (w_mulS se_str se_int) sa_nil))))))
  (sb_cons (z_set c.toCtx 4 (w_call c.toCtx (H__law_take) (sa_cons (w_v 0) (sa_cons (w_add (w_len m_len (sa_cons (w_v 1) sa_nil)) se_int) sa_nil)) ))
  (sb_cons (z_set c.toCtx 5 (w_ix c.toCtx (w_v 2) (w_call c.toCtx (H__law_take) (sa_cons (w_v 0) (sa_cons (w_len m_len (sa_cons (w_v 2) sa_nil)) sa_nil)) )))
  (sb_cons (z_set c.toCtx 6 (w_call c.toCtx (H__law_take) (sa_cons (w_v 0) (sa_cons se_int sa_nil)) ))
  (sb_cons (ss_if (t_lt c.toCtx (w_v 6) se_int) (sb_one (ss_ret (w_add (w_add (se_sl (w_v 1) so_none (so_some (w_v 4))) (w_ix c.toCtx (se_dat (sf_lst (sa_cons se_str (sa_cons (w_v 5) (sa_cons (w_v 5) sa_nil))))) (w_v 6))) (se_sl (w_v 1) (so_some (w_add (w_v 4) (w_ix c.toCtx (se_dat (sf_lst (sa_cons se_int (sa_cons se_int (sa_cons se_int sa_nil))))) (w_v 6)))) so_none)))) sb_nil)
  (sb_cons (z_set c.toCtx 7 (w_ix c.toCtx (se_dat (sf_lst (sa_cons se_str (sa_cons se_str (sa_cons se_str sa_nil))))) (w_sub (w_v 6) se_int)))
  (sb_cons (z_set c.toCtx 8 (se_dat (sf_split (w_v 1) (w_v 7))))
  (sb_cons (z_set c.toCtx 9 (w_call c.toCtx (H__law_take) (sa_cons (w_v 0) (sa_cons (w_len m_len (sa_cons (w_v 8) sa_nil)) sa_nil)) ))
  (sb_cons (ss_if (t_eq c.toCtx (w_v 6) se_int) (sb_one (ss_ret (se_join (w_v 7) (w_add (se_sl (w_v 8) so_none (so_some (w_v 9))) (se_sl (w_v 8) (so_some (w_add (w_v 9) se_int)) so_none))))) sb_nil)
  (sb_one (ss_ret (se_join (w_v 7) (w_add (w_add (se_sl (w_v 8) so_none (so_some (w_v 9))) (se_dat (sf_lst (sa_cons (w_call c.toCtx (H__law_pick) (sa_cons (w_v 0) (sa_cons (w_v 3) sa_nil)) ) sa_nil)))) (se_sl (w_v 8) (so_some (w_add (w_v 9) se_int)) so_none))))))))))))))))
theorem H__law_number_of (D : Def K mg "_law_number_of" (top 44)) (m_int : mg "int" = none) (m_len : mg "len" = none) : Has P w K mg base "_law_number_of" p__law_number_of 1 F_l_number_of :=
  has_of (k := 0) D bi__law_number_of (N := N__law_number_of) sc__law_number_of rfl (by decide) fun f cdv A outer s H E c =>
  (sb_cons (ss_if (st_w (sw_or (t_eq c.toCtx (w_v 0) se_str) (sw_or (t_ne c.toCtx (se_dat (sf_comp c.toCtx.cm c.toCtx.nd (own := [("_law_sign", 1)]) (si_s (w_v 0)) (blkOk_by (by rfl)) (by decide) (fun s1 Z1 D1 l1 p1 => (g_name (Ctx.bk c.toCtx s1 Z1 _ _ p1) 1)) (fun s1 Z1 D1 l1 p1 => (sts_one (t_notIn (Ctx.bk c.toCtx s1 Z1 _ _ p1) (w_v 1) se_str))) (fun s1 Z1 D1 l1 p1 => (w_v 1)))) (se_dat (sf_lst sa_nil))) (sw_or1 (t_gt c.toCtx (w_len m_len (sa_cons (w_v 0) sa_nil)) se_int))))) (sb_one (ss_ret se_non)) sb_nil)
  (sb_cons (ss_if (st_w (sw_and (t_eq c.toCtx (w_ix c.toCtx (w_v 0) se_int) se_str) (sw_and1 (t_ne c.toCtx (w_v 0) se_str)))) (sb_one (ss_ret se_non)) sb_nil)
  (sb_one (ss_ret (w_intS m_int (sa_cons (w_v 0) sa_nil))))))
theorem H__law_row_of (D : Def K mg "_law_row_of" (top 45)) (m_len : mg "len" = none) (m_tuple : mg "tuple" = none) (H__law_number_of : Has P w K mg base "_law_number_of" p__law_number_of 1 F_l_number_of) : Has P w K mg base "_law_row_of" p__law_row_of 2 F_l_row_of :=
  has_of (k := 1) D bi__law_row_of (N := N__law_row_of) sc__law_row_of rfl (by decide) fun f cdv A outer s H E c =>
  (sb_cons (z_set c.toCtx 3 (se_dat (sf_split (w_v 0) se_str)))
  (sb_cons (by first | exact ss_setComp c.toCtx.cm c.toCtx.nd (i := 4) rfl rfl rfl (own := [("_law_one", 5)]) (si_v (se_sl (w_v 3) (so_some se_int) so_none)) (blkOk_by (by rfl)) (by decide) (fun s2 Z2 D2 l2 p2 => (g_name (Ctx.bk c.toCtx s2 Z2 _ _ p2) 5)) (fun s2 Z2 D2 l2 p2 => sts_nil) (fun s2 Z2 D2 l2 p2 => (w_call (Ctx.bk c.toCtx s2 Z2 _ _ p2) (H__law_number_of) (sa_cons (w_v 5) sa_nil) )) | exact (z_set c.toCtx 4 (se_dat (sf_comp c.toCtx.cm c.toCtx.nd (own := [("_law_one", 5)]) (si_v (se_sl (w_v 3) (so_some se_int) so_none)) (blkOk_by (by rfl)) (by decide) (fun s1 Z1 D1 l1 p1 => (g_name (Ctx.bk c.toCtx s1 Z1 _ _ p1) 5)) (fun s1 Z1 D1 l1 p1 => sts_nil) (fun s1 Z1 D1 l1 p1 => (w_call (Ctx.bk c.toCtx s1 Z1 _ _ p1) (H__law_number_of) (sa_cons (w_v 5) sa_nil) ))))))
  (sb_cons (ss_if (st_w (sw_or (t_ne c.toCtx (w_ix c.toCtx (w_v 3) se_int) (w_v 1)) (sw_or (t_ne c.toCtx (w_len m_len (sa_cons (w_v 4) sa_nil)) (w_v 2)) (sw_or1 (t_in c.toCtx se_non (w_v 4)))))) (sb_one (ss_ret se_non)) sb_nil)
  (sb_one (ss_ret (w_tuple m_tuple (sa_cons (w_v 4) sa_nil)))))))
theorem H__law_whole (D : Def K mg "_law_whole" (top 37)) (m_bool : mg "bool" = none) (m_int : mg "int" = none) (m_isinstance : mg "isinstance" = none) : Has P w K mg base "_law_whole" p__law_whole 1 F_l_whole :=
  has_of (k := 0) D bi__law_whole (N := N__law_whole) sc__law_whole rfl (by decide) fun f cdv A outer s H E c =>
  (sb_one (ss_ret (se_and (se_isi rfl m_isinstance rfl m_int rfl kit_int (w_v 0)) (se_one (se_not (se_isi rfl m_isinstance rfl m_bool rfl kit_bool (w_v 0)))))))
theorem H__law_is_from (D : Def K mg "_law_is_from" (top 38)) (H__law_whole : Has P w K mg base "_law_whole" p__law_whole 1 F_l_whole) : Has P w K mg base "_law_is_from" p__law_is_from 2 F_l_is_from :=
  has_of (k := 1) D bi__law_is_from (N := N__law_is_from) sc__law_is_from rfl (by decide) fun f cdv A outer s H E c =>
  (sb_one (ss_ret (se_and (w_call c.toCtx (H__law_whole) (sa_cons (w_v 0) sa_nil) ) (se_one (w_ge c.toCtx (w_v 0) (w_v 1))))))
theorem H__law_is_place (D : Def K mg "_law_is_place" (top 39)) (H__law_is_from : Has P w K mg base "_law_is_from" p__law_is_from 2 F_l_is_from) : Has P w K mg base "_law_is_place" p__law_is_place 3 F_l_is_place :=
  has_of (k := 2) D bi__law_is_place (N := N__law_is_place) sc__law_is_place rfl (by decide) fun f cdv A outer s H E c =>
  (sb_one (ss_ret (se_and (w_call c.toCtx (H__law_is_from) (sa_cons (w_v 1) (sa_cons se_int sa_nil)) ) (se_one (w_lt c.toCtx (w_v 1) (w_v 0))))))
theorem H__law_once (D : Def K mg "_law_once" (top 31)) : Has P w K mg base "_law_once" p__law_once 1 F_l_once :=
  has_of (k := 0) D bi__law_once (N := N__law_once) sc__law_once rfl (by decide) fun f cdv A outer s H E c =>
  (sb_cons (z_set c.toCtx 1 (se_new sf_d0))
  (sb_cons (z_for c (si_v (w_v 0)) (g_name c.toCtx 2) (sb_one (ss_asg se_bl (sg_ix c.toCtx.u1 (w_v 1) (w_v 2)))))
  (sb_one (ss_ret (se_dat (sf_compK c.toCtx.cm c.toCtx.nd (own := [("_law_one", 2)])  (blkOk_by (by rfl)) (by decide) (fun s1 Z1 D1 l1 p1 => (g_name (Ctx.bk c.toCtx s1 Z1 _ _ p1) 2)) (fun s1 Z1 D1 l1 p1 => sts_nil) (fun s1 Z1 D1 l1 p1 => (w_v 2))))))))
theorem H__law_is_shape (D : Def K mg "_law_is_shape" (top 42)) (m_isinstance : mg "isinstance" = none) (m_len : mg "len" = none) (m_range : mg "range" = none) (m_tuple : mg "tuple" = none) (H__law_is_from : Has P w K mg base "_law_is_from" p__law_is_from 2 F_l_is_from) (H__law_is_place : Has P w K mg base "_law_is_place" p__law_is_place 3 F_l_is_place) (H__law_once : Has P w K mg base "_law_once" p__law_once 1 F_l_once) : Has P w K mg base "_law_is_shape" p__law_is_shape 4 F_l_is_shape :=
  has_of (k := 3) D bi__law_is_shape (N := N__law_is_shape) sc__law_is_shape rfl (by decide) fun f cdv A outer s H E c =>
  (sb_cons (ss_if (st_w (sw_or (st_not (st_val (se_isi rfl m_isinstance rfl m_tuple rfl kit_tuple (w_v 0)))) (sw_or (t_ne c.toCtx (w_len m_len (sa_cons (w_v 0) sa_nil)) se_int) (sw_or1 (st_not (st_val (w_call c.toCtx (H__law_is_from) (sa_cons (w_ix c.toCtx (w_v 0) se_int) (sa_cons se_int sa_nil)) ))))))) (sb_one (ss_ret se_bl)) sb_nil)
  (sb_cons (ss_asg (w_v 0) (sg_tup c.toCtx.cm (sgs_cons (g_name c.toCtx 1) (sgs_cons (g_name c.toCtx 2) (sgs_cons (g_name c.toCtx 3) (sgs_cons (g_name c.toCtx 4) sgs_nil))))))
  (sb_cons (ss_if (st_w (sw_or (st_not (st_val (w_call c.toCtx (H__law_is_place) (sa_cons (w_v 1) (sa_cons (w_v 2) sa_nil)) ))) (sw_or (st_not (st_val (w_call c.toCtx (H__law_is_place) (sa_cons (w_v 1) (sa_cons (w_v 3) sa_nil)) ))) (sw_or (t_eq c.toCtx (w_v 2) (w_v 3)) (sw_or1 (st_not (st_val (se_isi rfl m_isinstance rfl m_tuple rfl kit_tuple (w_v 4))))))))) (sb_one (ss_ret se_bl)) sb_nil)
  (sb_cons (z_for c (si_v (w_v 4)) (g_name c.toCtx 5) (sb_cons (ss_if (st_w (sw_or (st_not (st_val (se_isi rfl m_isinstance rfl m_tuple rfl kit_tuple (w_v 5)))) (sw_or (t_ne c.toCtx (w_len m_len (sa_cons (w_v 5) sa_nil)) se_int) (sw_or1 (st_not (st_val (w_call c.toCtx (H__law_is_place) (sa_cons (w_v 1) (sa_cons (w_ix c.toCtx (w_v 5) se_int) sa_nil)) ))))))) (sb_one (ss_ret se_bl)) sb_nil)
  (sb_one (ss_if (st_w (sw_or (st_not (st_val (w_call c.toCtx (H__law_is_place) (sa_cons (w_v 1) (sa_cons (w_ix c.toCtx (w_v 5) se_int) sa_nil)) ))) (sw_or (t_eq c.toCtx (w_ix c.toCtx (w_v 5) se_int) (w_ix c.toCtx (w_v 5) se_int)) (sw_or1 (t_eq c.toCtx (w_ix c.toCtx (w_v 5) se_int) (w_v 3)))))) (sb_one (ss_ret se_bl)) sb_nil))))
  (sb_cons (z_set c.toCtx 6 (w_call c.toCtx (H__law_once) (sa_cons (se_dat (sf_comp c.toCtx.cm c.toCtx.nd (own := [("_law_pair", 5)]) (si_v (w_v 4)) (blkOk_by (by rfl)) (by decide) (fun s1 Z1 D1 l1 p1 => (g_name (Ctx.bk c.toCtx s1 Z1 _ _ p1) 5)) (fun s1 Z1 D1 l1 p1 => sts_nil) (fun s1 Z1 D1 l1 p1 => (w_ix (Ctx.bk c.toCtx s1 Z1 _ _ p1) (w_v 5) se_int)))) sa_nil) ))
  (sb_cons (z_for c (si_r1 rfl m_range (sa_cons (w_add (w_len m_len (sa_cons (w_v 4) sa_nil)) se_int) sa_nil)) (g_name c.toCtx 7) (sb_one (by first | exact ss_setComp c.toCtx.cm c.toCtx.nd (i := 6) rfl rfl rfl (own := [("_law_place", 8)]) (si_v (w_v 6)) (blkOk_by (by rfl)) (by decide) (fun s4 Z4 D4 l4 p4 => (g_name (Ctx.bk c.toCtx s4 Z4 _ _ p4) 8)) (fun s4 Z4 D4 l4 p4 => (sts_one (t_ne (Ctx.bk c.toCtx s4 Z4 _ _ p4) (se_dat (sf_comp (Ctx.bk c.toCtx s4 Z4 _ _ p4).cm (Ctx.bk c.toCtx s4 Z4 _ _ p4).nd (own := [("_law_pair", 5)]) (si_v (w_v 4)) (blkOk_by (by rfl)) (by decide) (fun s5 Z5 D5 l5 p5 => (g_name (Ctx.bk (Ctx.bk c.toCtx s4 Z4 _ _ p4) s5 Z5 _ _ p5) 5)) (fun s5 Z5 D5 l5 p5 => (sts_one (st_w (sw_and (t_eq (Ctx.bk (Ctx.bk c.toCtx s4 Z4 _ _ p4) s5 Z5 _ _ p5) (w_ix (Ctx.bk (Ctx.bk c.toCtx s4 Z4 _ _ p4) s5 Z5 _ _ p5) (w_v 5) se_int) (w_v 8)) (sw_and1 (t_in (Ctx.bk (Ctx.bk c.toCtx s4 Z4 _ _ p4) s5 Z5 _ _ p5) (w_ix (Ctx.bk (Ctx.bk c.toCtx s4 Z4 _ _ p4) s5 Z5 _ _ p5) (w_v 5) se_int) (w_v 6))))))) (fun s5 Z5 D5 l5 p5 => (w_v 5)))) (se_dat (sf_lst sa_nil))))) (fun s4 Z4 D4 l4 p4 => (w_v 8)) | exact (z_set c.toCtx 6 (se_dat (sf_comp c.toCtx.cm c.toCtx.nd (own := [("_law_place", 8)]) (si_v (w_v 6)) (blkOk_by (by rfl)) (by decide) (fun s2 Z2 D2 l2 p2 => (g_name (Ctx.bk c.toCtx s2 Z2 _ _ p2) 8)) (fun s2 Z2 D2 l2 p2 => (sts_one (t_ne (Ctx.bk c.toCtx s2 Z2 _ _ p2) (se_dat (sf_comp (Ctx.bk c.toCtx s2 Z2 _ _ p2).cm (Ctx.bk c.toCtx s2 Z2 _ _ p2).nd (own := [("_law_pair", 5)]) (si_v (w_v 4)) (blkOk_by (by rfl)) (by decide) (fun s3 Z3 D3 l3 p3 => (g_name (Ctx.bk (Ctx.bk c.toCtx s2 Z2 _ _ p2) s3 Z3 _ _ p3) 5)) (fun s3 Z3 D3 l3 p3 => (sts_one (st_w (sw_and (t_eq (Ctx.bk (Ctx.bk c.toCtx s2 Z2 _ _ p2) s3 Z3 _ _ p3) (w_ix (Ctx.bk (Ctx.bk c.toCtx s2 Z2 _ _ p2) s3 Z3 _ _ p3) (w_v 5) se_int) (w_v 8)) (sw_and1 (t_in (Ctx.bk (Ctx.bk c.toCtx s2 Z2 _ _ p2) s3 Z3 _ _ p3) (w_ix (Ctx.bk (Ctx.bk c.toCtx s2 Z2 _ _ p2) s3 Z3 _ _ p3) (w_v 5) se_int) (w_v 6))))))) (fun s3 Z3 D3 l3 p3 => (w_v 5)))) (se_dat (sf_lst sa_nil))))) (fun s2 Z2 D2 l2 p2 => (w_v 8))))))))
  (sb_one (ss_ret (w_eq c.toCtx (w_v 6) (se_dat (sf_lst sa_nil)))))))))))
theorem H__law_due (D : Def K mg "_law_due" (top 48)) (m_len : mg "len" = none) (m_range : mg "range" = none) (m_tuple : mg "tuple" = none) (H__law_row_of : Has P w K mg base "_law_row_of" p__law_row_of 2 F_l_row_of) (H__law_is_shape : Has P w K mg base "_law_is_shape" p__law_is_shape 4 F_l_is_shape) : Has P w K mg base "_law_due" p__law_due 5 F_l_due_v8 :=
  has_of (k := 4) D bi__law_due (N := N__law_due) sc__law_due rfl (by decide) fun f cdv A outer s H E c =>
  (sb_cons (z_set c.toCtx 1 (se_dat (sf_split (w_v 0) se_str)))
  (sb_cons (z_set c.toCtx 2 (w_call c.toCtx (H__law_row_of) (sa_cons (w_ix c.toCtx (w_v 1) se_int) (sa_cons se_str (sa_cons se_int sa_nil))) ))
  (sb_cons (ss_if (t_isN c.toCtx (w_v 2) se_non) (sb_one (ss_ret se_int)) sb_nil)
  (sb_cons (z_set c.toCtx 3 (se_new (sf_lst sa_nil)))
  (sb_cons (z_for c (si_r2 rfl m_range (sa_cons se_int (sa_cons (w_len m_len (sa_cons (w_v 1) sa_nil)) sa_nil))) (g_name c.toCtx 4) (sb_cons (z_set c.toCtx 5 (w_call c.toCtx (H__law_row_of) (sa_cons (w_ix c.toCtx (w_v 1) (w_v 4)) (sa_cons se_str (sa_cons se_int sa_nil))) ))
  (sb_cons (ss_if (t_isN c.toCtx (w_v 5) se_non) (sb_one (ss_ret (w_add (w_v 4) se_int))) sb_nil)
  (sb_one (ss_expr (se_append (w_v 3) (sa_cons (w_v 5) sa_nil)))))))
  (sb_cons (z_set c.toCtx 6 (se_tup (sa_cons (w_ix c.toCtx (w_v 2) se_int) (sa_cons (w_ix c.toCtx (w_v 2) se_int) (sa_cons (w_ix c.toCtx (w_v 2) se_int) (sa_cons (w_tuple m_tuple (sa_cons (w_v 3) sa_nil)) sa_nil))))))
  (sb_cons (ss_if (st_not (st_val (w_call c.toCtx (H__law_is_shape) (sa_cons (w_v 6) sa_nil) ))) (sb_one (ss_ret (w_add (w_len m_len (sa_cons (w_v 1) sa_nil)) se_int))) sb_nil)
  (sb_one (ss_ret (w_v 6))))))))))
theorem H__law_word_of (D : Def K mg "_law_word_of" (top 43)) (m_ValueError : mg "ValueError" = none) (m_int : mg "int" = none) (m_isinstance : mg "isinstance" = none) (m_zip : mg "zip" = none) (EA : ExcAll K mg) : Has P w K mg base "_law_word_of" p__law_word_of 1 F_l_word_of :=
  has_of (k := 0) D bi__law_word_of (N := N__law_word_of) sc__law_word_of rfl (by decide) fun f cdv A outer s H E c =>
  (sb_cons (z_set c.toCtx 1 (se_dat (sf_lst (sa_cons (se_isE EA rfl m_isinstance (w_v 0)) (sa_cons (se_isE EA rfl m_isinstance (w_v 0)) (sa_cons (se_isE EA rfl m_isinstance (w_v 0)) sa_nil))))))
  (sb_cons (z_set c.toCtx 1 (w_add (w_v 1) (se_dat (sf_lst (sa_cons (se_isE EA rfl m_isinstance (w_v 0)) (sa_cons (se_isE EA rfl m_isinstance (w_v 0)) (sa_cons (se_isE EA rfl m_isinstance (w_v 0)) sa_nil)))))))
  (sb_cons (z_set c.toCtx 1 (w_add (w_v 1) (se_dat (sf_lst (sa_cons (se_isE EA rfl m_isinstance (w_v 0)) (sa_cons (se_isE EA rfl m_isinstance (w_v 0)) (sa_cons (se_isE EA rfl m_isinstance (w_v 0)) sa_nil)))))))
  (sb_cons (z_set c.toCtx 1 (w_add (w_v 1) (se_dat (sf_lst (sa_cons (se_isE EA rfl m_isinstance (w_v 0)) (sa_cons (se_isV EA rfl m_isinstance m_ValueError (w_v 0)) (sa_cons (se_isE EA rfl m_isinstance (w_v 0)) sa_nil)))))))
  (sb_cons (z_set c.toCtx 2 (se_dat (sf_lst (sa_cons se_str (sa_cons se_str (sa_cons se_str (sa_cons se_str (sa_cons se_str (sa_cons se_str (sa_cons se_str (sa_cons se_str (sa_cons se_str (sa_cons se_str (sa_cons se_str (sa_cons se_str sa_nil)))))))))))))))
  (sb_cons (by first | exact ss_setComp c.toCtx.cm c.toCtx.nd (i := 3) rfl rfl rfl (own := [("_law_word", 4), ("_law_truth", 5)]) (si_zip rfl m_zip (sa_cons (w_v 2) (sa_cons (w_v 1) sa_nil))) (blkOk_by (by rfl)) (by decide) (fun s2 Z2 D2 l2 p2 => (sg_tup (Ctx.bk c.toCtx s2 Z2 _ _ p2).cm (sgs_cons (g_name (Ctx.bk c.toCtx s2 Z2 _ _ p2) 4) (sgs_cons (g_name (Ctx.bk c.toCtx s2 Z2 _ _ p2) 5) sgs_nil)))) (fun s2 Z2 D2 l2 p2 => (sts_one (st_val (w_v 5)))) (fun s2 Z2 D2 l2 p2 => (w_v 4)) | exact (z_set c.toCtx 3 (se_dat (sf_comp c.toCtx.cm c.toCtx.nd (own := [("_law_word", 4), ("_law_truth", 5)]) (si_zip rfl m_zip (sa_cons (w_v 2) (sa_cons (w_v 1) sa_nil))) (blkOk_by (by rfl)) (by decide) (fun s1 Z1 D1 l1 p1 => (sg_tup (Ctx.bk c.toCtx s1 Z1 _ _ p1).cm (sgs_cons (g_name (Ctx.bk c.toCtx s1 Z1 _ _ p1) 4) (sgs_cons (g_name (Ctx.bk c.toCtx s1 Z1 _ _ p1) 5) sgs_nil)))) (fun s1 Z1 D1 l1 p1 => (sts_one (st_val (w_v 5)))) (fun s1 Z1 D1 l1 p1 => (w_v 4))))))
  (sb_cons (ss_if (t_eq c.toCtx (w_v 3) (se_dat (sf_lst sa_nil))) (sb_one (ss_ret se_str)) sb_nil)
  (sb_one (ss_ret (w_ix c.toCtx (se_dat (sf_lst (sa_cons (w_ix c.toCtx (w_v 3) se_int) (sa_cons se_str sa_nil)))) (w_int m_int (sa_cons (w_ne c.toCtx (se_sl (w_v 3) (so_some se_int) so_none) (se_dat (sf_lst (sa_cons se_str (sa_cons se_str sa_nil))))) sa_nil))))))))))))
theorem H__law_both (D : Def K mg "_law_both" (top 49)) (m_repr : mg "repr" = none) (EA : ExcAll K mg) (TX : TxtF K mg) (H__law_due : Has P w K mg base "_law_due" p__law_due 5 F_l_due_v8) (H_read_shape : Has P w K mg base "read_shape" p_read_shape 6 F_read_shape) (H__law_word_of : Has P w K mg base "_law_word_of" p__law_word_of 1 F_l_word_of) : Has P w K mg base "_law_both" p__law_both 7 F_l_both_v2 :=
  has_of (k := 6) D bi__law_both (N := N__law_both) sc__law_both rfl (by decide) fun f cdv A outer s H E c =>
  (sb_cons (z_set c.toCtx 1 (w_call c.toCtx (H__law_due) (sa_cons (w_v 0) sa_nil) ))
  (sb_cons (z_set c.toCtx 2 se_non)
  (sb_cons (z_set c.toCtx 3 se_non)
  (sb_cons (ss_try c EA (i := 4) (j := 3) (by decide) (fun Wt1 pt1 xt1 ct1 =>
  (sb_one (z_set ct1.toCtx 2 (w_call ct1.toCtx (H_read_shape) (sa_cons (w_v 0) sa_nil) )))))
  (sb_cons (ss_if (t_notN c.toCtx (w_v 3) se_non) (sb_one (ss_ret (se_and (w_isN c.toCtx (w_v 2) se_non) (se_and (w_eq c.toCtx (w_call c.toCtx (H__law_word_of) (sa_cons (w_v 3) sa_nil) ) se_str) (se_one (w_eq c.toCtx (w_repr c.toCtx m_repr (sa_cons (se_spot TX (w_v 3)) sa_nil)) (w_repr c.toCtx m_repr (sa_cons (w_v 1) sa_nil)))))))) sb_nil)
  (sb_one (ss_ret (w_eq c.toCtx (w_repr c.toCtx m_repr (sa_cons (w_v 2) sa_nil)) (w_repr c.toCtx m_repr (sa_cons (w_v 1) sa_nil))))))))))
theorem H_law (D : Def K mg "law" (top 50)) (m_len : mg "len" = none) (m_max : mg "max" = none) (m_min : mg "min" = none) (m_range : mg "range" = none) (m_repr : mg "repr" = none) (H__law_pile : HasF P w K mg base "_law_pile" p__law_pile 2 F_l_pile) (H__law_grown : Has P w K mg base "_law_grown" p__law_grown 2 F_l_grown) (H__law_take : Has P w K mg base "_law_take" p__law_take 1 F_l_take) (H__law_shape : Has P w K mg base "_law_shape" p__law_shape 3 F_l_shape) (H__law_text : Has P w K mg base "_law_text" p__law_text 1 F_l_text_v2) (H_shape_text : Has P w K mg base "shape_text" p_shape_text 6 F_shape_text) (H_read_shape : Has P w K mg base "read_shape" p_read_shape 6 F_read_shape) (H__law_bent : Has P w K mg base "_law_bent" p__law_bent 3 F_l_bent_v5) (H__law_both : Has P w K mg base "_law_both" p__law_both 7 F_l_both_v2) : Has P w K mg base "law" p_law 8 F_law_k56 :=
  has_of (k := 7) D bi_law (N := N_law) sc_law rfl (by decide) fun f cdv A outer s H E c =>
  (sb_cons (z_for c (si_r1 rfl m_range (sa_cons (w_max2 c.toCtx m_max (sa_cons se_int (sa_cons (w_min2 c.toCtx m_min (sa_cons (w_len m_len (sa_cons (w_v 0) sa_nil)) (sa_cons se_int sa_nil))) sa_nil))) sa_nil)) (g_name c.toCtx 1) (sb_cons (z_set c.toCtx 2 (se_new (w_callF c.toCtx (H__law_pile) (sa_cons (w_v 0) (sa_cons (w_v 1) sa_nil)) )))
  (sb_cons (z_set c.toCtx 3 (w_ix c.toCtx (se_dat (sf_lst (sa_cons (w_call c.toCtx (H__law_shape) (sa_cons (w_v 2) (sa_cons se_int (sa_cons se_int sa_nil))) ) (sa_cons (w_call c.toCtx (H__law_grown) (sa_cons (w_v 2) (sa_cons (w_call c.toCtx (H__law_take) (sa_cons (w_v 2) (sa_cons se_int sa_nil)) ) sa_nil)) ) sa_nil)))) (w_call c.toCtx (H__law_take) (sa_cons (w_v 2) (sa_cons se_int sa_nil)) )))
  (sb_cons (z_set c.toCtx 4 (w_repr c.toCtx m_repr (sa_cons (w_v 3) sa_nil)))
  (sb_cons (z_set c.toCtx 5 (w_call c.toCtx (H__law_text) (sa_cons (w_v 3) sa_nil) ))
  (sb_cons (ss_if (st_w (sw_or (t_ne c.toCtx (w_call c.toCtx (H_shape_text) (sa_cons (w_v 3) sa_nil) ) (w_v 5)) (sw_or (t_ne c.toCtx (w_repr c.toCtx m_repr (sa_cons (w_call c.toCtx (H_read_shape) (sa_cons (w_v 5) sa_nil) ) sa_nil)) (w_v 4)) (sw_or1 (t_ne c.toCtx (w_repr c.toCtx m_repr (sa_cons (w_v 3) sa_nil)) (w_v 4)))))) (sb_one (ss_ret se_bl)) sb_nil)
  (sb_one (z_for c (si_r1 rfl m_range (sa_cons se_int sa_nil)) (g_name c.toCtx 6) (sb_cons (z_set c.toCtx 7 (w_call c.toCtx (H__law_bent) (sa_cons (w_v 2) (sa_cons (w_v 5) sa_nil)) ))
  (sb_cons (ss_if (t_gt c.toCtx (w_v 6) se_int) (sb_one (z_set c.toCtx 7 (w_call c.toCtx (H__law_bent) (sa_cons (w_v 2) (sa_cons (w_v 7) sa_nil)) ))) sb_nil)
  (sb_one (ss_if (st_w (sw_or (st_not (st_val (w_call c.toCtx (H__law_both) (sa_cons (w_v 5) sa_nil) ))) (sw_or1 (st_not (st_val (w_call c.toCtx (H__law_both) (sa_cons (w_v 7) sa_nil) )))))) (sb_one (ss_ret se_bl)) sb_nil))))))))))))
  (sb_cons (z_set c.toCtx 8 (se_tup (sa_cons se_int (sa_cons se_int (sa_cons se_int (sa_cons (w_mul (se_tup (sa_cons (se_tup (sa_cons se_int (sa_cons se_int sa_nil))) (sa_cons (se_tup (sa_cons se_int (sa_cons se_int sa_nil))) (sa_cons (se_tup (sa_cons se_int (sa_cons se_int sa_nil))) sa_nil)))) se_int) sa_nil))))))
  (sb_cons (ss_if (st_w (sw_or (t_ne c.toCtx (w_call c.toCtx (H_shape_text) (sa_cons (w_v 8) sa_nil) ) (w_call c.toCtx (H__law_text) (sa_cons (w_v 8) sa_nil) )) (sw_or1 (t_ne c.toCtx (w_call c.toCtx (H_read_shape) (sa_cons (w_call c.toCtx (H__law_text) (sa_cons (w_v 8) sa_nil) ) sa_nil) ) (w_v 8))))) (sb_one (ss_ret se_bl)) sb_nil)
  (sb_cons (z_set c.toCtx 9 se_str)
  (sb_cons (z_set c.toCtx 10 (se_new (sf_lst (sa_cons (w_add (w_add se_str (w_mulS se_str se_int)) se_str) (sa_cons (w_add (w_add se_str (w_mulS se_str se_int)) se_str) (sa_cons (w_add (w_add se_str (w_mulS se_str se_int)) se_str) sa_nil))))))
  (sb_cons (z_set c.toCtx 10 (se_new (sf_cat (w_v 10) (se_dat (sf_lst (sa_cons se_str (sa_cons se_str (sa_cons se_str (sa_cons (w_v 9) (sa_cons (w_add (w_v 9) se_str) (sa_cons se_str (sa_cons se_str (sa_cons se_str sa_nil)))))))))))))
  (sb_cons (z_set c.toCtx 10 (se_new (sf_cat (w_v 10) (se_dat (sf_lst (sa_cons se_str (sa_cons se_str sa_nil)))))))
  (sb_cons (z_set c.toCtx 11 (se_dat (sf_lst (sa_cons se_str (sa_cons se_str (sa_cons se_str (sa_cons se_str (sa_cons se_str (sa_cons se_str (sa_cons se_str (sa_cons se_str sa_nil)))))))))))
  (sb_cons (z_for c (si_v (w_add (w_v 11) (se_dat (sf_lst (sa_cons se_str sa_nil))))) (g_name c.toCtx 12) (sb_one (ss_expr (se_append (w_v 10) (sa_cons (w_add (w_add (w_v 9) se_str) (w_v 12)) sa_nil)))))
  (sb_cons (z_for c (si_v (se_dat (sf_lst (sa_cons (w_mulS se_str se_int) (sa_cons (w_mulS se_str se_int) (sa_cons se_str (sa_cons se_str (sa_cons se_str sa_nil)))))))) (g_name c.toCtx 13) (sb_one (ss_expr (se_append (w_v 10) (sa_cons (w_add (w_add (w_v 9) se_str) (w_v 13)) sa_nil)))))
  (sb_one (ss_ret (w_eq c.toCtx (se_dat (sf_comp c.toCtx.cm c.toCtx.nd (own := [("_law_text_here", 5)]) (si_v (w_v 10)) (blkOk_by (by rfl)) (by decide) (fun s1 Z1 D1 l1 p1 => (g_name (Ctx.bk c.toCtx s1 Z1 _ _ p1) 5)) (fun s1 Z1 D1 l1 p1 => (sts_one (st_not (st_val (w_call (Ctx.bk c.toCtx s1 Z1 _ _ p1) (H__law_both) (sa_cons (w_v 5) sa_nil) ))))) (fun s1 Z1 D1 l1 p1 => (w_v 5)))) (se_dat (sf_lst sa_nil)))))))))))))))
theorem facts {h : Heap} (X : K.In h) (G : h.Ns mainGlobals mg) (c : He.SaysD fal fnl K) (cE : BB K = true) : Has P w K mg base "law" p_law 8 F_law_k56 := by
  obtain ⟨fd__law_mixed, U__law_mixed⟩ := c.def_ 0 (d := d__law_mixed) rfl
  have D__law_mixed : Def K mg "_law_mixed" (top 32) := ⟨_, fd__law_mixed, He.glo_ok X G (c.fact 0 (f := .glo "_law_mixed") rfl), U__law_mixed⟩
  obtain ⟨fd__law_pile, U__law_pile⟩ := c.def_ 1 (d := d__law_pile) rfl
  have D__law_pile : Def K mg "_law_pile" (top 33) := ⟨_, fd__law_pile, He.glo_ok X G (c.fact 1 (f := .glo "_law_pile") rfl), U__law_pile⟩
  obtain ⟨fd__law_take, U__law_take⟩ := c.def_ 2 (d := d__law_take) rfl
  have D__law_take : Def K mg "_law_take" (top 34) := ⟨_, fd__law_take, He.glo_ok X G (c.fact 2 (f := .glo "_law_take") rfl), U__law_take⟩
  obtain ⟨fd__law_grown, U__law_grown⟩ := c.def_ 3 (d := d__law_grown) rfl
  have D__law_grown : Def K mg "_law_grown" (top 41) := ⟨_, fd__law_grown, He.glo_ok X G (c.fact 3 (f := .glo "_law_grown") rfl), U__law_grown⟩
  obtain ⟨fd__law_order_of, U__law_order_of⟩ := c.def_ 4 (d := d__law_order_of) rfl
  have D__law_order_of : Def K mg "_law_order_of" (top 35) := ⟨_, fd__law_order_of, He.glo_ok X G (c.fact 4 (f := .glo "_law_order_of") rfl), U__law_order_of⟩
  obtain ⟨fd__law_shape, U__law_shape⟩ := c.def_ 5 (d := d__law_shape) rfl
  have D__law_shape : Def K mg "_law_shape" (top 40) := ⟨_, fd__law_shape, He.glo_ok X G (c.fact 5 (f := .glo "_law_shape") rfl), U__law_shape⟩
  obtain ⟨fd__law_text, U__law_text⟩ := c.def_ 6 (d := d__law_text) rfl
  have D__law_text : Def K mg "_law_text" (top 47) := ⟨_, fd__law_text, He.glo_ok X G (c.fact 6 (f := .glo "_law_text") rfl), U__law_text⟩
  obtain ⟨fd_is_whole, U_is_whole⟩ := c.def_ 7 (d := d_is_whole) rfl
  have D_is_whole : Def K mg "is_whole" (top 13) := ⟨_, fd_is_whole, He.glo_ok X G (c.fact 7 (f := .glo "is_whole") rfl), U_is_whole⟩
  obtain ⟨fd_is_place, U_is_place⟩ := c.def_ 8 (d := d_is_place) rfl
  have D_is_place : Def K mg "is_place" (top 14) := ⟨_, fd_is_place, He.glo_ok X G (c.fact 8 (f := .glo "is_place") rfl), U_is_place⟩
  obtain ⟨fd_is_pair, U_is_pair⟩ := c.def_ 9 (d := d_is_pair) rfl
  have D_is_pair : Def K mg "is_pair" (top 16) := ⟨_, fd_is_pair, He.glo_ok X G (c.fact 9 (f := .glo "is_pair") rfl), U_is_pair⟩
  obtain ⟨fd_reached, U_reached⟩ := c.def_ 10 (d := d_reached) rfl
  have D_reached : Def K mg "reached" (top 17) := ⟨_, fd_reached, He.glo_ok X G (c.fact 10 (f := .glo "reached") rfl), U_reached⟩
  obtain ⟨fd_has_round, U_has_round⟩ := c.def_ 11 (d := d_has_round) rfl
  have D_has_round : Def K mg "has_round" (top 18) := ⟨_, fd_has_round, He.glo_ok X G (c.fact 11 (f := .glo "has_round") rfl), U_has_round⟩
  obtain ⟨fd_is_right_shape, U_is_right_shape⟩ := c.def_ 12 (d := d_is_right_shape) rfl
  have D_is_right_shape : Def K mg "is_right_shape" (top 19) := ⟨_, fd_is_right_shape, He.glo_ok X G (c.fact 12 (f := .glo "is_right_shape") rfl), U_is_right_shape⟩
  obtain ⟨fd_look_at_shape, U_look_at_shape⟩ := c.def_ 13 (d := d_look_at_shape) rfl
  have D_look_at_shape : Def K mg "look_at_shape" (top 20) := ⟨_, fd_look_at_shape, He.glo_ok X G (c.fact 13 (f := .glo "look_at_shape") rfl), U_look_at_shape⟩
  obtain ⟨fd_rows_text, U_rows_text⟩ := c.def_ 14 (d := d_rows_text) rfl
  have D_rows_text : Def K mg "rows_text" (top 24) := ⟨_, fd_rows_text, He.glo_ok X G (c.fact 14 (f := .glo "rows_text") rfl), U_rows_text⟩
  obtain ⟨fd_shape_text, U_shape_text⟩ := c.def_ 15 (d := d_shape_text) rfl
  have D_shape_text : Def K mg "shape_text" (top 25) := ⟨_, fd_shape_text, He.glo_ok X G (c.fact 15 (f := .glo "shape_text") rfl), U_shape_text⟩
  obtain ⟨fd_number_read, U_number_read⟩ := c.def_ 16 (d := d_number_read) rfl
  have D_number_read : Def K mg "number_read" (top 26) := ⟨_, fd_number_read, He.glo_ok X G (c.fact 16 (f := .glo "number_read") rfl), U_number_read⟩
  obtain ⟨fd_row_read, U_row_read⟩ := c.def_ 17 (d := d_row_read) rfl
  have D_row_read : Def K mg "row_read" (top 27) := ⟨_, fd_row_read, He.glo_ok X G (c.fact 17 (f := .glo "row_read") rfl), U_row_read⟩
  obtain ⟨fd_rows_read, U_rows_read⟩ := c.def_ 18 (d := d_rows_read) rfl
  have D_rows_read : Def K mg "rows_read" (top 28) := ⟨_, fd_rows_read, He.glo_ok X G (c.fact 18 (f := .glo "rows_read") rfl), U_rows_read⟩
  obtain ⟨fd_read_shape, U_read_shape⟩ := c.def_ 19 (d := d_read_shape) rfl
  have D_read_shape : Def K mg "read_shape" (top 29) := ⟨_, fd_read_shape, He.glo_ok X G (c.fact 19 (f := .glo "read_shape") rfl), U_read_shape⟩
  obtain ⟨fd__law_pick, U__law_pick⟩ := c.def_ 20 (d := d__law_pick) rfl
  have D__law_pick : Def K mg "_law_pick" (top 36) := ⟨_, fd__law_pick, He.glo_ok X G (c.fact 20 (f := .glo "_law_pick") rfl), U__law_pick⟩
  obtain ⟨fd__law_bent, U__law_bent⟩ := c.def_ 21 (d := d__law_bent) rfl
  have D__law_bent : Def K mg "_law_bent" (top 46) := ⟨_, fd__law_bent, He.glo_ok X G (c.fact 21 (f := .glo "_law_bent") rfl), U__law_bent⟩
  obtain ⟨fd__law_number_of, U__law_number_of⟩ := c.def_ 22 (d := d__law_number_of) rfl
  have D__law_number_of : Def K mg "_law_number_of" (top 44) := ⟨_, fd__law_number_of, He.glo_ok X G (c.fact 22 (f := .glo "_law_number_of") rfl), U__law_number_of⟩
  obtain ⟨fd__law_row_of, U__law_row_of⟩ := c.def_ 23 (d := d__law_row_of) rfl
  have D__law_row_of : Def K mg "_law_row_of" (top 45) := ⟨_, fd__law_row_of, He.glo_ok X G (c.fact 23 (f := .glo "_law_row_of") rfl), U__law_row_of⟩
  obtain ⟨fd__law_whole, U__law_whole⟩ := c.def_ 24 (d := d__law_whole) rfl
  have D__law_whole : Def K mg "_law_whole" (top 37) := ⟨_, fd__law_whole, He.glo_ok X G (c.fact 24 (f := .glo "_law_whole") rfl), U__law_whole⟩
  obtain ⟨fd__law_is_from, U__law_is_from⟩ := c.def_ 25 (d := d__law_is_from) rfl
  have D__law_is_from : Def K mg "_law_is_from" (top 38) := ⟨_, fd__law_is_from, He.glo_ok X G (c.fact 25 (f := .glo "_law_is_from") rfl), U__law_is_from⟩
  obtain ⟨fd__law_is_place, U__law_is_place⟩ := c.def_ 26 (d := d__law_is_place) rfl
  have D__law_is_place : Def K mg "_law_is_place" (top 39) := ⟨_, fd__law_is_place, He.glo_ok X G (c.fact 26 (f := .glo "_law_is_place") rfl), U__law_is_place⟩
  obtain ⟨fd__law_once, U__law_once⟩ := c.def_ 27 (d := d__law_once) rfl
  have D__law_once : Def K mg "_law_once" (top 31) := ⟨_, fd__law_once, He.glo_ok X G (c.fact 27 (f := .glo "_law_once") rfl), U__law_once⟩
  obtain ⟨fd__law_is_shape, U__law_is_shape⟩ := c.def_ 28 (d := d__law_is_shape) rfl
  have D__law_is_shape : Def K mg "_law_is_shape" (top 42) := ⟨_, fd__law_is_shape, He.glo_ok X G (c.fact 28 (f := .glo "_law_is_shape") rfl), U__law_is_shape⟩
  obtain ⟨fd__law_due, U__law_due⟩ := c.def_ 29 (d := d__law_due) rfl
  have D__law_due : Def K mg "_law_due" (top 48) := ⟨_, fd__law_due, He.glo_ok X G (c.fact 29 (f := .glo "_law_due") rfl), U__law_due⟩
  obtain ⟨fd__law_word_of, U__law_word_of⟩ := c.def_ 30 (d := d__law_word_of) rfl
  have D__law_word_of : Def K mg "_law_word_of" (top 43) := ⟨_, fd__law_word_of, He.glo_ok X G (c.fact 30 (f := .glo "_law_word_of") rfl), U__law_word_of⟩
  obtain ⟨fd__law_both, U__law_both⟩ := c.def_ 31 (d := d__law_both) rfl
  have D__law_both : Def K mg "_law_both" (top 49) := ⟨_, fd__law_both, He.glo_ok X G (c.fact 31 (f := .glo "_law_both") rfl), U__law_both⟩
  obtain ⟨fd_law, U_law⟩ := c.def_ 32 (d := d_law) rfl
  have D_law : Def K mg "law" (top 50) := ⟨_, fd_law, He.glo_ok X G (c.fact 32 (f := .glo "law") rfl), U_law⟩
  have m_ValueError : mg "ValueError" = none := He.free_ok X G (c.fact 33 (f := .free "ValueError") rfl)
  have m_all : mg "all" = none := He.free_ok X G (c.fact 34 (f := .free "all") rfl)
  have m_any : mg "any" = none := He.free_ok X G (c.fact 35 (f := .free "any") rfl)
  have m_bool : mg "bool" = none := He.free_ok X G (c.fact 36 (f := .free "bool") rfl)
  have m_enumerate : mg "enumerate" = none := He.free_ok X G (c.fact 37 (f := .free "enumerate") rfl)
  have m_int : mg "int" = none := He.free_ok X G (c.fact 38 (f := .free "int") rfl)
  have m_isinstance : mg "isinstance" = none := He.free_ok X G (c.fact 39 (f := .free "isinstance") rfl)
  have m_len : mg "len" = none := He.free_ok X G (c.fact 40 (f := .free "len") rfl)
  have m_max : mg "max" = none := He.free_ok X G (c.fact 41 (f := .free "max") rfl)
  have m_min : mg "min" = none := He.free_ok X G (c.fact 42 (f := .free "min") rfl)
  have m_range : mg "range" = none := He.free_ok X G (c.fact 43 (f := .free "range") rfl)
  have m_repr : mg "repr" = none := He.free_ok X G (c.fact 44 (f := .free "repr") rfl)
  have m_str : mg "str" = none := He.free_ok X G (c.fact 45 (f := .free "str") rfl)
  have m_tuple : mg "tuple" = none := He.free_ok X G (c.fact 46 (f := .free "tuple") rfl)
  have m_zip : mg "zip" = none := He.free_ok X G (c.fact 47 (f := .free "zip") rfl)
  obtain ⟨t_FIGURES, g_FIGURES⟩ := He.str_ok X G (c.fact 48 (f := .str "FIGURES" "0123456789") rfl)
  obtain ⟨t_MOST_FIGURES, g_MOST_FIGURES⟩ := He.int_ok X G (c.fact 49 (f := .int "MOST_FIGURES" (30)) rfl)
  have E_NoShape : ExcF K mg "NoShape" := ⟨_, He.glo_ok X G (c.fact 50 (f := .glo "NoShape") rfl), He.exc_ok (c.fact 51 (f := .exc "NoShape") rfl)⟩
  have cE2 := Bool.and_eq_true_iff.mp cE
  have EA : ExcAll K mg := excAll_of X G cE2.1
  obtain ⟨fd_NoText, U_NoText⟩ := c.def_ 33 (d := d_NoText_init) rfl
  have TX : TxtF K mg := txt_of (st := st_NoText_init) X G cE2.2 U_NoText ⟨_, _, _, _, _, _, rfl, rfl, rfl⟩
  have h__law_mixed : Has P w K mg base "_law_mixed" p__law_mixed 1 F_l_mixed := H__law_mixed D__law_mixed m_int
  have h__law_pile : HasF P w K mg base "_law_pile" p__law_pile 2 F_l_pile := H__law_pile D__law_pile m_int m_len m_range h__law_mixed
  have h__law_take : Has P w K mg base "_law_take" p__law_take 1 F_l_take := H__law_take D__law_take m_int
  have h__law_grown : Has P w K mg base "_law_grown" p__law_grown 2 F_l_grown := H__law_grown D__law_grown m_len m_range m_tuple h__law_take
  have h__law_order_of : Has P w K mg base "_law_order_of" p__law_order_of 2 F_l_order_of := H__law_order_of D__law_order_of m_range h__law_take
  have h__law_shape : Has P w K mg base "_law_shape" p__law_shape 3 F_l_shape := H__law_shape D__law_shape m_range m_tuple h__law_take h__law_order_of
  have h__law_text : Has P w K mg base "_law_text" p__law_text 1 F_l_text_v2 := H__law_text D__law_text m_str
  have h_is_whole : Has P w K mg base "is_whole" p_is_whole 1 F_is_whole := H_is_whole D_is_whole m_bool m_int m_isinstance
  have h_is_place : Has P w K mg base "is_place" p_is_place 2 F_is_place := H_is_place D_is_place h_is_whole
  have h_is_pair : Has P w K mg base "is_pair" p_is_pair 3 F_is_pair := H_is_pair D_is_pair m_all m_isinstance m_len m_tuple h_is_place
  have h_reached : Has P w K mg base "reached" p_reached 1 F_reached := H_reached D_reached m_len
  have h_has_round : Has P w K mg base "has_round" p_has_round 2 F_has_round := H_has_round D_has_round m_any h_reached
  have h_is_right_shape : Has P w K mg base "is_right_shape" p_is_right_shape 4 F_is_right_shape := H_is_right_shape D_is_right_shape m_all m_isinstance m_len m_tuple h_is_whole h_is_place h_is_pair h_has_round
  have h_look_at_shape : Has P w K mg base "look_at_shape" p_look_at_shape 5 F_look_at_shape := H_look_at_shape D_look_at_shape E_NoShape h_is_right_shape
  have h_rows_text : Has P w K mg base "rows_text" p_rows_text 1 F_rows_text := H_rows_text D_rows_text m_str
  have h_shape_text : Has P w K mg base "shape_text" p_shape_text 6 F_shape_text := H_shape_text D_shape_text h_look_at_shape h_rows_text
  have h_number_read : Has P w K mg base "number_read" p_number_read 1 F_number_read := H_number_read D_number_read m_all m_int m_len g_FIGURES g_MOST_FIGURES
  have h_row_read : Has P w K mg base "row_read" p_row_read 2 F_row_read := H_row_read D_row_read m_len m_tuple h_number_read
  have h_rows_read : Has P w K mg base "rows_read" p_rows_read 4 F_rows_read := H_rows_read D_rows_read m_enumerate m_tuple TX h_row_read
  have h_read_shape : Has P w K mg base "read_shape" p_read_shape 6 F_read_shape := H_read_shape D_read_shape m_len TX h_rows_read h_is_right_shape
  have h__law_pick : Has P w K mg base "_law_pick" p__law_pick 2 F_l_pick := H__law_pick D__law_pick m_len h__law_take
  have h__law_bent : Has P w K mg base "_law_bent" p__law_bent 3 F_l_bent_v5 := H__law_bent D__law_bent m_len h__law_take h__law_pick
  have h__law_number_of : Has P w K mg base "_law_number_of" p__law_number_of 1 F_l_number_of := H__law_number_of D__law_number_of m_int m_len
  have h__law_row_of : Has P w K mg base "_law_row_of" p__law_row_of 2 F_l_row_of := H__law_row_of D__law_row_of m_len m_tuple h__law_number_of
  have h__law_whole : Has P w K mg base "_law_whole" p__law_whole 1 F_l_whole := H__law_whole D__law_whole m_bool m_int m_isinstance
  have h__law_is_from : Has P w K mg base "_law_is_from" p__law_is_from 2 F_l_is_from := H__law_is_from D__law_is_from h__law_whole
  have h__law_is_place : Has P w K mg base "_law_is_place" p__law_is_place 3 F_l_is_place := H__law_is_place D__law_is_place h__law_is_from
  have h__law_once : Has P w K mg base "_law_once" p__law_once 1 F_l_once := H__law_once D__law_once
  have h__law_is_shape : Has P w K mg base "_law_is_shape" p__law_is_shape 4 F_l_is_shape := H__law_is_shape D__law_is_shape m_isinstance m_len m_range m_tuple h__law_is_from h__law_is_place h__law_once
  have h__law_due : Has P w K mg base "_law_due" p__law_due 5 F_l_due_v8 := H__law_due D__law_due m_len m_range m_tuple h__law_row_of h__law_is_shape
  have h__law_word_of : Has P w K mg base "_law_word_of" p__law_word_of 1 F_l_word_of := H__law_word_of D__law_word_of m_ValueError m_int m_isinstance m_zip EA
  have h__law_both : Has P w K mg base "_law_both" p__law_both 7 F_l_both_v2 := H__law_both D__law_both m_repr EA TX h__law_due h_read_shape h__law_word_of
  exact H_law D_law m_len m_max m_min m_range m_repr h__law_pile h__law_grown h__law_take h__law_shape h__law_text h_shape_text h_read_shape h__law_bent h__law_both
end L2.HW.R_k56
set_option maxHeartbeats 200000
namespace L2.HW
open PySem PySem.Spec PyProof.Rows
@[simp] theorem openOut_nx (lk : Option Nat) (L0 L : LH) (env : En) : openOut lk L0 (.nx env L) = .nx env (openL lk L0 L) := (rfl)
@[simp] theorem openOut_rt (lk : Option Nat) (L0 L : LH) (w : Va) : openOut lk L0 (.rt w L) = .rt w (openL lk L0 L) := (rfl)
mutual
def fine : PyData → Bool
  | .none => true
  | .bool _ => true
  | .int i => decide (i.natAbs.log2 < 1920)
  | .str x => PyData.strOk x
  | .list xs => fineAll xs
  | .tuple xs => fineAll xs
  | .dict _ => false
def fineAll : List PyData → Bool
  | [] => true
  | x :: xs => fine x && fineAll xs
end
theorem fineAll_iff : ∀ {xs : List PyData}, fineAll xs = true ↔ ∀ x ∈ xs, fine x = true
  | [] => by simp [fineAll]
  | x :: xs => by simp [fineAll, fineAll_iff (xs := xs)]
mutual
theorem fine_show : ∀ x : PyData, fine x = true → x.showable = true ∧ x.canLay0 = true ∧ x.leavesShort 1921 = true
  | .none, _ => by simp [PyData.showable, PyData.canLay0, PyData.leavesShort]
  | .bool _, _ => by simp [PyData.showable, PyData.canLay0, PyData.leavesShort]
  | .int i, h => by
    have h : i.natAbs.log2 < 1920 := by simpa [fine] using h
    refine ⟨by simpa [PyData.showable] using h, by simp [PyData.canLay0], ?_⟩
    simp only [PyData.leavesShort, PyData.shown]
    exact decide_eq_true (int_text_len_1921 h)
  | .str x, h => by
    have h : PyData.strOk x = true := by simpa [fine] using h
    refine ⟨by simp [PyData.showable], by simpa [PyData.canLay0] using h, ?_⟩
    simp only [PyData.leavesShort, List.all_eq_true, decide_eq_true_eq]
    intro c hc
    unfold PyData.strOk at h
    rw [Array.all_eq_true_iff_forall_mem] at h
    have := h c (by simpa using hc)
    have : c < 0x110000 := by simpa using this
    omega
  | .list xs, h => by
    obtain ⟨h1, h2, h3⟩ := fines_show xs (by simpa [fine] using h)
    exact ⟨by simpa [PyData.showable] using h1, by simpa [PyData.canLay0] using h2, by simpa [PyData.leavesShort] using h3⟩
  | .tuple xs, h => by
    obtain ⟨h1, h2, h3⟩ := fines_show xs (by simpa [fine] using h)
    exact ⟨by simpa [PyData.showable] using h1, by simpa [PyData.canLay0] using h2, by simpa [PyData.leavesShort] using h3⟩
  | .dict _, h => by simp [fine] at h
theorem fines_show : ∀ x : List PyData, fineAll x = true → PyData.showableAll x = true ∧ PyData.canLayAll0 x = true ∧ PyData.leavesShortAll 1921 x = true
  | [], _ => by simp [PyData.showableAll, PyData.canLayAll0, PyData.leavesShortAll]
  | x :: xs, h => by
    have h : fine x = true ∧ fineAll xs = true := by simpa [fineAll] using h
    obtain ⟨h1, h2, h3⟩ := fine_show x h.1
    obtain ⟨k1, k2, k3⟩ := fines_show xs h.2
    simp [PyData.showableAll, PyData.canLayAll0, PyData.leavesShortAll, h1, h2, h3, k1, k2, k3]
end
theorem okShow_of {x : PyData} (h : fine x = true) (hd : x.depth < 180) (hb : x.bulk ≤ 8000) : okShow x := by
  obtain ⟨h1, h2, h3⟩ := fine_show x h
  refine ⟨h1, hd, ?_⟩
  have := PyData.shown_le_bulk 1921 (by decide) x h3
  rw [sizeLine_eq]
  omega
theorem shaped_of {x : PyData} (h : fine x = true) (hd : x.depth ≤ 64) : SeqAt.shaped x = true := by
  obtain ⟨h1, h2, h3⟩ := fine_show x h
  simp [SeqAt.shaped, h2, hd]
theorem depthAll_le {n : Nat} : ∀ {xs : List PyData}, PyData.depthAll xs ≤ n ↔ ∀ x ∈ xs, x.depth ≤ n
  | [] => by simp [PyData.depthAll]
  | x :: xs => by simp [PyData.depthAll, depthAll_le (xs := xs), Nat.max_le]
theorem eqv_int (i j : Int) : PyData.eqv (.int i) (.int j) = decide (i = j) := by
  by_cases h : i = j <;> simp [PyData.eqv, h]
@[simp] theorem dget_d (L : LH) (x : PyData) (u : Va) : Va.dget L (.d x) u = none := by
  unfold Va.dget
  split <;> first | rfl | (rename_i h; cases h) | (rename_i h _; cases h)
@[simp] theorem dget_scr (L : LH) (x : List Int) (u : Va) : Va.dget L (.scr x) u = none := by
  unfold Va.dget
  split <;> first | rfl | (rename_i h; cases h) | (rename_i h _; cases h)
@[simp] theorem seq_scr (L : LH) (ns : List Int) : (Va.scr ns).seq L = some (ns.map fun i => .d (.int i)) := (rfl)
theorem forL_inv {g : Va → En → LH → Res En} {body : SFn} {I : List Va → En → LH → Prop} : ∀ (ws : List Va) (env : En) (L : LH), I ws env L →
    (∀ w r env L, I (w :: r) env L → ∃ env1 L1, g w env L = .ok env1 L1 ∧ ∃ env2 L2, (body env1 L1 = .nx env2 L2 ∨ body env1 L1 = .ct env2 L2) ∧ I r env2 L2) → ∃ env' L', forL g body ws env L = .nx env' L' ∧ I [] env' L'
  | [], env, L, h, _ => ⟨env, L, rfl, h⟩
  | w :: ws, env, L, h, k => by
    obtain ⟨env1, L1, e1, env2, L2, e2, h2⟩ := k w ws env L h
    obtain ⟨env', L', e3, h3⟩ := forL_inv ws env2 L2 h2 k
    refine ⟨env', L', ?_, h3⟩
    unfold forL
    rw [e1]
    rcases e2 with e2 | e2 <;> simp only [e2] <;> exact e3
theorem compL_data {g : Va → En → LH → Res En} {t : En → LH → Res Bool} {f : EF} {env : En} {L : LH} (p : PyData → Bool) (h : PyData → PyData) : ∀ (xs : List PyData),
    (∀ x ∈ xs, ∃ env1, g (.d x) env L = .ok env1 L ∧ t env1 L = .ok (p x) L ∧ (p x = true → f env1 L = .ok (.d (h x)) L)) →
    compL g t f (xs.map Va.d) env L = .ok (((xs.filter p).map h).map Va.d) L
  | [], _ => rfl
  | x :: xs, k => by
    obtain ⟨env1, e1, e2, e3⟩ := k x List.mem_cons_self
    have ih := compL_data (g := g) (t := t) (f := f) (env := env) (L := L) p h xs fun y hy => k y (List.mem_cons_of_mem _ hy)
    rw [List.map_cons]
    unfold compL
    rw [e1]
    simp only [e2]
    cases hp : p x with
    | true => simp [e3 hp, ih, hp]
    | false => simp [ih, hp]
theorem fComp_data {s : Srcf} {g : Va → En → LH → Res En} {t : En → LH → Res Bool} {f : EF} {vs : List Nat} {env : En} {L : LH} {xs : List PyData} (p : PyData → Bool) (h : PyData → PyData)
    (hs : s env L = .ok (xs.map Va.d, none) L) (hz : xs.length ≤ sizeLine) (k : ∀ x ∈ xs, ∃ env1, g (.d x) (wipeE env vs) L = .ok env1 L ∧ t env1 L = .ok (p x) L ∧ (p x = true → f env1 L = .ok (.d (h x)) L)) :
    fComp s g t f vs env L = .ok (.lst (((xs.filter p).map h).map Va.d)) L := by
  unfold fComp
  rw [hs]
  simp only [Res.bind_ok, List.length_map, if_pos hz, lockL_none]
  rw [compL_data p h xs k]
  simp
@[simp] theorem va_comp {α : Type} (h : α → PyData) (xs : List α) : (Ob.lst (xs.map (Va.d ∘ h))).va = some (.d (.list (xs.map h))) := by
  rw [← List.map_map]; exact va_lst _
@[simp] theorem va_comp' {α : Type} (h : α → PyData) (xs : List α) : (Ob.lst (xs.map fun x => Va.d (h x))).va = some (.d (.list (xs.map h))) := va_comp h xs
theorem fComp_map {s : Srcf} {g : Va → En → LH → Res En} {f : EF} {vs : List Nat} {env : En} {L : LH} {xs : List PyData} (h : PyData → PyData)
    (hs : s env L = .ok (xs.map Va.d, none) L) (hz : xs.length ≤ sizeLine) (k : ∀ x ∈ xs, ∃ env1, g (.d x) (wipeE env vs) L = .ok env1 L ∧ f env1 L = .ok (.d (h x)) L) :
    fComp s g tTrue f vs env L = .ok (.lst ((xs.map h).map Va.d)) L := by
  have := fComp_data (s := s) (g := g) (t := tTrue) (f := f) (vs := vs) (env := env) (L := L) (xs := xs) (fun _ => true) h hs hz fun x hx => by
    obtain ⟨e, h1, h2⟩ := k x hx
    exact ⟨e, h1, rfl, fun _ => h2⟩
  rwa [List.filter_eq_self.mpr (fun _ _ => rfl)] at this
theorem fComp_filter {s : Srcf} {g : Va → En → LH → Res En} {t : En → LH → Res Bool} {f : EF} {vs : List Nat} {env : En} {L : LH} {xs : List PyData} (p : PyData → Bool)
    (hs : s env L = .ok (xs.map Va.d, none) L) (hz : xs.length ≤ sizeLine) (k : ∀ x ∈ xs, ∃ env1, g (.d x) (wipeE env vs) L = .ok env1 L ∧ t env1 L = .ok (p x) L ∧ f env1 L = .ok (.d x) L) :
    fComp s g t f vs env L = .ok (.lst ((xs.filter p).map Va.d)) L := by
  have := fComp_data (s := s) (g := g) (t := t) (f := f) (vs := vs) (env := env) (L := L) (xs := xs) p _root_.id hs hz fun x hx => by
    obtain ⟨e, h1, h2, h3⟩ := k x hx
    exact ⟨e, h1, h2, fun _ => h3⟩
  simpa using this
@[simp] theorem va_nil : (Ob.lst []).va = some (.d (.list [])) := (rfl)
abbrev P1 (p : Int) : Option Ob := some (.lst [.d (.int p)])
theorem kept_set {L g : LH} {n : Nat} {p p' : Int} (hn : n < L.length) : Kept (L.set n (P1 p)) ((L ++ g).set n (P1 p')) := by
  intro k hk
  rw [List.length_set] at hk
  by_cases h : k = n
  · subst h
    exact .inr ⟨_, List.getElem?_set_self (by simp; omega), by simp [Ob.low, lows]⟩
  · left
    rw [List.getElem?_set_ne (Ne.symm h), List.getElem?_set_ne (Ne.symm h), List.getElem?_append_left hk]
theorem outV_set {L g : LH} {n : Nat} {p p' : Int} (w : Va) (hn : n < L.length) : outV (L.set n (P1 p)) ((L ++ g).set n (P1 p')) (some w) = .ok w (L.set n (P1 p')) := by
  unfold outV
  simp only [if_pos (kept_set hn), List.length_set]
  rw [List.set_append_left _ _ hn, List.take_left' (by simp)]
theorem outV_set0 {L : LH} {n : Nat} {p p' : Int} (w : Va) (hn : n < L.length) : outV (L.set n (P1 p)) (L.set n (P1 p')) (some w) = .ok w (L.set n (P1 p')) := by
  have := outV_set (g := []) (p := p) (p' := p') w hn
  rwa [List.append_nil] at this
theorem set_app {L g : LH} {n : Nat} {o : Option Ob} (hn : n < L.length) : L.set n o ++ g = (L ++ g).set n o := (List.set_append_left _ _ hn).symm
theorem get_pile {L : LH} {n : Nat} {p : Int} (hn : n < L.length) : (L.set n (P1 p))[n]? = some (P1 p) := List.getElem?_set_self hn
theorem get_top {L : LH} {n : Nat} {p : Int} {o : Option Ob} (hn : n < L.length) : ((L ++ [o]).set n (P1 p))[L.length]? = some o := by
  rw [List.getElem?_set_ne (by omega), List.getElem?_append_right (Nat.le_refl _)]; simp
theorem set_top {L : LH} {n : Nat} {p : Int} {o o' : Option Ob} (hn : n < L.length) : ((L ++ [o]).set n (P1 p)).set L.length o' = (L ++ [o']).set n (P1 p) := by
  rw [List.set_comm _ _ (by omega), List.set_append_right _ _ (Nat.le_refl _)]; simp
theorem get_top' {L : LH} {n : Nat} {p : Int} {o : Option Ob} (hn : n < L.length) (h : L.length < ((L ++ [o]).set n (P1 p)).length) : ((L ++ [o]).set n (P1 p))[L.length]'h = o := by
  have := get_top (p := p) (o := o) hn
  rw [List.getElem?_eq_getElem h] at this
  exact Option.some.inj this
@[simp] theorem u_mkTup (ws : List Va) : mkTup ws = match datas ws with
  | some xs => .d (.tuple xs)
  | none => .tup ws := rfl
@[simp] theorem u_va (ws : List Va) : (Ob.lst ws).va = (datas ws).map fun xs => .d (.list xs) := (rfl)
@[simp] theorem datas_comp {α : Type} (h : α → PyData) (xs : List α) : datas (xs.map (Va.d ∘ h)) = some (xs.map h) := by
  rw [← List.map_map]; exact datas_map _
@[simp] theorem datas_comp' {α : Type} (h : α → PyData) (xs : List α) : datas (xs.map fun x => Va.d (h x)) = some (xs.map h) := datas_comp h xs
@[simp] theorem cmpOk_str (a b : Str) : cmpOk (.str a) (.str b) = true := (rfl)
theorem cmpOk_of {x y : PyData} (h : SeqAt.shaped x = true) (k : SeqAt.shaped y = true) : cmpOk x y = true := by simp [cmpOk, h, k]
@[simp] theorem cmpOk_int (a b : Int) : cmpOk (.int a) (.int b) = true := cmpOk_of (by simp [SeqAt.shaped, PyData.canLay0, PyData.depth]) (by simp [SeqAt.shaped, PyData.canLay0, PyData.depth])
@[simp] theorem cmpOk_bool (a b : Bool) : cmpOk (.bool a) (.bool b) = true := cmpOk_of (by simp [SeqAt.shaped, PyData.canLay0, PyData.depth]) (by simp [SeqAt.shaped, PyData.canLay0, PyData.depth])
@[simp] theorem outV_nil (L : LH) (w : Va) : outV [] L (some w) = .ok w [] := by
  have : Kept [] L := fun n h => by simp at h
  simp [outV, this]
theorem cMin2_eq (i j : Int) (L : LH) : cMin2 [.d (.int i), .d (.int j)] L = .ok (.d (.int (min i j))) L := by
  simp only [u_cMin2]
  congr 3
  by_cases h : j < i
  · rw [if_pos h]; omega
  · rw [if_neg h]; omega
theorem cMax2_eq (i j : Int) (L : LH) : cMax2 [.d (.int i), .d (.int j)] L = .ok (.d (.int (max i j))) L := by
  simp only [u_cMax2]
  congr 3
  by_cases h : j > i
  · rw [if_pos h]; omega
  · rw [if_neg h]; omega
@[simp] theorem outV_self (L : LH) (w : Va) : outV L L (some w) = .ok w L := by simp [outV]
@[simp] theorem outV_app (L g : LH) (w : Va) : outV L (L ++ g) (some w) = .ok w L := by simp [outV]
end L2.HW
namespace L2.HW
open PySem PySem.Spec PyProof.Rows
theorem take_ex {L : LH} {n : Nat} {p s : Int} (hn : n < L.length) (hs : 0 < s) (hl : s.natAbs.log2 < 9000 := by decide) :
    ∃ u p' : Int, 0 ≤ u ∧ u < s ∧ F_l_take [.loc n, .d (.int s)] (L.set n (P1 p)) = .ok (.d (.int u)) (L.set n (P1 p')) := by
  refine ⟨p % s, p / s, Int.emod_nonneg _ (by omega), Int.emod_lt_of_pos _ hs, ?_⟩
  have hg := get_pile (L := L) (p := p) hn
  simp [F_l_take, b_l_take, mkFn, Va.dget, Va.seq, hg, atI, ixN, modC, divC, hs, hl, outV_set0, hn]
theorem take_cell {L : LH} {n : Nat} {p s : Int} {o : Option Ob} (hn : n < L.length) (hs : 0 < s) (hl : s.natAbs.log2 < 9000 := by decide) :
    ∃ u p' : Int, 0 ≤ u ∧ u < s ∧ F_l_take [.loc n, .d (.int s)] ((L ++ [o]).set n (P1 p)) = .ok (.d (.int u)) ((L ++ [o]).set n (P1 p')) := take_ex (by simp; omega) hs hl
theorem log_small {s : Int} (h : 0 ≤ s) (h2 : s ≤ 100000) : s.natAbs.log2 < 9000 := by
  have : s.natAbs < 2 ^ 9000 := by
    have : s.natAbs ≤ 100000 := by omega
    exact Nat.lt_of_le_of_lt this (by decide +kernel)
  by_cases h0 : s.natAbs = 0
  · rw [h0]; decide
  · exact (Nat.log2_lt h0).mpr this
theorem mixed_ex {c k : Int} {L : LH} (hk : 0 ≤ k) (hk2 : k ≤ 100000) : ∃ u : Int, 0 ≤ u ∧ u < 2147483579 ∧ F_l_mixed [.d (.int c), .d (.int k)] L = .ok (.d (.int u)) L := by
  have lg : ∀ i : Int, 0 ≤ i → i < 2 ^ 64 → i.natAbs.log2 < 64 := fun i h0 h1 => by
    have : i.natAbs < 2 ^ 64 := by omega
    by_cases z : i.natAbs = 0
    · rw [z]; decide
    · exact (Nat.log2_lt z).mpr this
  have a0 : 0 ≤ c % 2147483647 := Int.emod_nonneg _ (by omega)
  have a1 : c % 2147483647 < 2147483647 := Int.emod_lt_of_pos _ (by omega)
  have m1 : mulC (c % 2147483647) 48271 = true := by
    have := lg _ a0 (by omega)
    have h2 := lg 48271 (by omega) (by omega)
    exact decide_eq_true (by omega)
  have m2 : mulC k 69621 = true := by
    have := lg k hk (by omega)
    have h2 := lg 69621 (by omega) (by omega)
    exact decide_eq_true (by omega)
  generalize hn : (c % 2147483647 * 48271 + k * 69621 + 1048583) % 2147483629 = n
  have n0 : 0 ≤ n := by rw [← hn]; exact Int.emod_nonneg _ (by omega)
  have n1 : n < 2147483629 := by rw [← hn]; exact Int.emod_lt_of_pos _ (by omega)
  have m3 : mulC n n = true := by
    have := lg n n0 (by omega)
    exact decide_eq_true (by omega)
  generalize hn2 : (n * n) % 2147483587 = n2
  have p0 : 0 ≤ n2 := by rw [← hn2]; exact Int.emod_nonneg _ (by omega)
  have p1 : n2 < 2147483587 := by rw [← hn2]; exact Int.emod_lt_of_pos _ (by omega)
  have m4 : mulC n2 (n2 + 2) = true := by
    have := lg n2 p0 (by omega)
    have := lg (n2 + 2) (by omega) (by omega)
    exact decide_eq_true (by omega)
  refine ⟨(n2 * (n2 + 2)) % 2147483579, Int.emod_nonneg _ (by omega), Int.emod_lt_of_pos _ (by omega), ?_⟩
  simp [F_l_mixed, b_l_mixed, mkFn, modC, m1, m2, hn, m3, hn2, m4]
theorem log_pow {i : Int} {k : Nat} (h0 : 0 ≤ i) (h : i < 2 ^ k) (hk : 0 < k) : i.natAbs.log2 < k := by
  have : i.natAbs < 2 ^ k := by
    have : ((i.natAbs : Nat) : Int) < ((2 ^ k : Nat) : Int) := by rw [Int.natAbs_of_nonneg h0]; simpa using h
    exact_mod_cast this
  by_cases z : i.natAbs = 0
  · rw [z]; simpa using hk
  · exact (Nat.log2_lt z).mpr this
theorem pile_ex {ns : List Int} {k : Int} {L : LH} (hk : 0 ≤ k) (hk2 : k ≤ 10000) (hl : ns.length ≤ 63) : ∃ p : Int, F_l_pile [.scr ns, .d (.int k)] L = .ok (.lst [.d (.int p)]) L := by
  have cell : ∃ c : Int, (k < (ns.length : Int) → atI (ns.map fun i => Va.d (.int i)) k = some (.d (.int c))) ∧ (¬ k < (ns.length : Int) → c = 0) := by
    by_cases h : k < (ns.length : Int)
    · have hlt : k.toNat < ns.length := by omega
      refine ⟨ns[k.toNat], fun _ => ?_, fun z => absurd h z⟩
      simp [atI, ixN, hk, h, List.getElem?_eq_getElem hlt]
    · exact ⟨0, fun z => absurd z h, fun _ => rfl⟩
  obtain ⟨c, hc1, hc2⟩ := cell
  have loop := forL_inv (g := tN 4) (body := b_l_pile_1)
    (I := fun ws env M => M = L ∧ ∃ (f : Int) (j : Nat) (a : Option Va), env = [some (.scr ns), some (.d (.int k)), some (.d (.int c)), some (.d (.int f)), a] ∧ j + ws.length = 24 ∧ ws = (List.range' j ws.length).map (fun i => Va.d (.int (0 + (i : Nat)))) ∧ 0 ≤ f ∧ f < 2 ^ (31 * j))
    (rngV 0 24) [some (.scr ns), some (.d (.int k)), some (.d (.int c)), some (.d (.int 0)), none] L ⟨rfl, 0, 0, none, rfl, by simp [rngV], by simp [rngV, List.range_eq_range'], by omega, by simp⟩ ?_
  · obtain ⟨env', L', e1, rfl, f, j, a, rfl, h1, h2, h3, h4⟩ := loop
    by_cases hb : c < 10 ^ 18
    · refine ⟨f, ?_⟩
      have hb' : ¬ (1000000000000000000 ≤ c) := by omega
      by_cases h : k < (ns.length : Int)
      · simp [F_l_pile, b_l_pile, mkFnF, h, hc1 h, sFor, e1, powC, hb', sizeLine_eq, settleOb, mapO]
      · have := hc2 h
        subst this
        simp [F_l_pile, b_l_pile, mkFnF, h, sFor, e1, powC, sizeLine_eq, settleOb, mapO]
    · have hb' : 1000000000000000000 ≤ c := by omega
      have h : k < (ns.length : Int) := by
        by_cases h : k < (ns.length : Int)
        · exact h
        · have := hc2 h; omega
      have b1 : mulC (10 ^ 60) (10 ^ 60) = true := by decide +kernel
      have b2 : mulC (10 ^ 120) (10 ^ 60) = true := by decide +kernel
      have b3 : mulC (10 ^ 180) (10 ^ 60) = true := by decide +kernel
      simp only [Int.reducePow] at b1 b2 b3
      exact ⟨_, by simp [F_l_pile, b_l_pile, mkFnF, h, hc1 h, powC, hb', sizeLine_eq, settleOb, mapO, b1, b2, b3, modC]; rfl⟩
  · rintro w r env M ⟨rfl, f, j, a, rfl, h1, h2, h3, h4⟩
    simp only [List.length_cons] at h1 h2
    rw [List.range'_succ, List.map_cons, List.cons.injEq] at h2
    obtain ⟨rfl, h2⟩ := h2
    have hj : j < 24 := by omega
    obtain ⟨u, u0, u1, eu⟩ := mixed_ex (c := c) (k := 7 * k + 100 * (j : Int) + (j : Int) * (j : Int)) (L := M) (by
      have : (0 : Int) ≤ (j : Int) * j := Int.mul_nonneg (by omega) (by omega)
      omega) (by
      have : (j : Int) * j ≤ 24 * 24 := Int.mul_le_mul (by omega) (by omega) (by omega) (by omega)
      omega)
    have lg : ∀ i : Int, 0 ≤ i → i < 2 ^ 31 → i.natAbs.log2 < 31 := fun i h0 h1 => log_pow h0 h1 (by omega)
    have hp : (2 : Int) ^ (31 * j) ≤ 2 ^ 744 := by
      have : (2 : Nat) ^ (31 * j) ≤ 2 ^ 744 := Nat.pow_le_pow_right (by omega) (by omega)
      exact_mod_cast this
    have lf : f.natAbs.log2 < 744 := log_pow h3 (by omega) (by omega)
    have m1 : mulC f 2147483579 = true := by
      have := lg 2147483579 (by omega) (by omega)
      exact decide_eq_true (by omega)
    have m2 : mulC 7 k = true := by
      have := lg k (by omega) (by omega)
      have := lg 7 (by omega) (by omega)
      exact decide_eq_true (by omega)
    have m3 : mulC 100 (j : Int) = true := by
      have := lg j (by omega) (by omega)
      have := lg 100 (by omega) (by omega)
      exact decide_eq_true (by omega)
    have m4 : mulC (j : Int) (j : Int) = true := by
      have := lg j (by omega) (by omega)
      exact decide_eq_true (by omega)
    refine ⟨_, _, rfl, _, _, .inl ?_, rfl, f * 2147483579 + u, j + 1, some (.d (.int (0 + (j : Int)))), rfl, by omega, h2, ?_, ?_⟩
    · simp [b_l_pile_1, m1, m2, m3, m4, eu]
    · have : 0 ≤ f * 2147483579 := Int.mul_nonneg h3 (by omega)
      omega
    · have e : (2 : Int) ^ (31 * (j + 1)) = 2 ^ (31 * j) * 2147483648 := by
        rw [show 31 * (j + 1) = 31 * j + 31 by omega, Int.pow_add]; rfl
      rw [e]
      have : (f + 1) * 2147483579 ≤ 2 ^ (31 * j) * 2147483579 := Int.mul_le_mul_of_nonneg_right (by omega) (by omega)
      have h5 : (0 : Int) < 2 ^ (31 * j) := Int.pow_pos (by omega)
      omega
end L2.HW
namespace L2.HW
open PySem PySem.Spec PyProof.Rows
def Ok (d b : Nat) (x : PyData) : Prop := fine x = true ∧ x.depth ≤ d ∧ x.bulk ≤ b
theorem Ok.mono {d b d' b' : Nat} {x : PyData} (h : Ok d b x) (h1 : d ≤ d') (h2 : b ≤ b') : Ok d' b' x := ⟨h.1, by have := h.2.1; omega, by have := h.2.2; omega⟩
theorem Ok.tuple {d b : Nat} {xs : List PyData} (h : Ok d b (.tuple xs)) : ∀ x ∈ xs, fine x = true ∧ x.depth + 1 ≤ d := by
  intro x hx
  have h1 := h.1
  have h2 := h.2.1
  simp only [fine] at h1
  simp only [PyData.depth] at h2
  have h3 : PyData.depthAll xs ≤ d - 1 := by omega
  exact ⟨fineAll_iff.mp h1 x hx, by have := depthAll_le.mp h3 x hx; omega⟩
theorem atI_map (xs : List PyData) (i : Int) (h0 : 0 ≤ i) (h1 : i < xs.length) : ∃ x ∈ xs, atI (xs.map Va.d) i = some (.d x) := by
  have hlt : i.toNat < xs.length := by omega
  refine ⟨xs[i.toNat], List.getElem_mem hlt, ?_⟩
  simp [atI, ixN, h0, h1, List.getElem?_eq_getElem hlt]
theorem cut_lo {α : Type} (xs : List α) (i : Int) (h0 : 0 ≤ i) (h1 : i ≤ xs.length) : cutA xs none (some i) = xs.take i.toNat := by
  have e : i = ((i.toNat : Nat) : Int) := by omega
  rw [e]
  unfold cutA
  rw [HT.sIx_none, HT.sIx_nat]
  simp
  omega
theorem cut_hi {α : Type} (xs : List α) (i : Int) (h0 : 0 ≤ i) (h1 : i ≤ xs.length) : cutA xs (some i) none = xs.drop i.toNat := by
  have e : i = ((i.toNat : Nat) : Int) := by omega
  rw [e]
  unfold cutA
  rw [HT.sIx_none, HT.sIx_nat]
  have : min i.toNat xs.length = i.toNat := by omega
  rw [this, Int.toNat_natCast]
  exact List.take_of_length_le (by simp)
end L2.HW
namespace L2.HW
open PySem PySem.Spec PyProof.Rows
theorem seq_nx {f g : SFn} {env env1 : En} {L L1 : LH} {r : Out} (h : f env L = .nx env1 L1) (k : g env1 L1 = r) : sSeq f g env L = r := by
  simp only [u_sSeq, h]; exact k
theorem seq_rt {f g : SFn} {env : En} {L L1 : LH} {w : Va} (h : f env L = .rt w L1) : sSeq f g env L = .rt w L1 := by
  simp only [u_sSeq, h]
theorem seq_exc {f g : SFn} {env env1 : En} {L L1 : LH} {c : Str} {x : Option PyData} (h : f env L = .exc c x env1 L1) : sSeq f g env L = .exc c x env1 L1 := by
  simp only [u_sSeq, h]
theorem for_nx {s : Srcf} {g : Va → En → LH → Res En} {body : SFn} {env env1 : En} {L L1 : LH} {ws : List Va} (hs : s env L = .ok (ws, none) L) (h : forL g body ws env L = .nx env1 L1) : sFor s g body env L = .nx env1 L1 := by
  simp only [sFor, hs, then_ok, lockL_none, h, openOut_nx, openL_none]
theorem for_rt {s : Srcf} {g : Va → En → LH → Res En} {body : SFn} {env : En} {L L1 : LH} {w : Va} {ws : List Va} (hs : s env L = .ok (ws, none) L) (h : forL g body ws env L = .rt w L1) : sFor s g body env L = .rt w L1 := by
  simp only [sFor, hs, then_ok, lockL_none, h, openOut_rt, openL_none]
theorem fn_rt {np nl : Nat} {body : SFn} {ws : List Va} {L L' : LH} {x : PyData} (hl : ws.length = np) (h : body (ws.map some ++ List.replicate (nl - ws.length) none) L = .rt (.d x) L') (hk : outV L L' (some (.d x)) = .ok (.d x) L := by simp) : mkFn np nl body ws L = .ok (.d x) L := by
  unfold mkFn
  rw [if_pos hl, h]
  simpa using hk
theorem fn_out {np nl : Nat} {body : SFn} {ws : List Va} {L L' L2 : LH} {w u : Va} (hl : ws.length = np) (h : body (ws.map some ++ List.replicate (nl - ws.length) none) L = .rt w L') (hs : settle L' L.length 9 w = some u) (hk : outV L L' (some u) = .ok u L2) : mkFn np nl body ws L = .ok u L2 := by
  unfold mkFn
  rw [if_pos hl, h]
  simp only [hs, hk]
theorem forL_all {α : Type} {g : Va → En → LH → Res En} {body : SFn} (enc : α → Va) (R : En → LH → Prop) (p : α → Bool) (w : Va) : ∀ (xs : List α) (env : En) (L : LH), R env L →
    (∀ x ∈ xs, ∀ env L, R env L → ∃ env1 L1, g (enc x) env L = .ok env1 L1 ∧ (if p x then ∃ env2 L2, (body env1 L1 = .nx env2 L2 ∨ body env1 L1 = .ct env2 L2) ∧ R env2 L2 else ∃ env2 L2, body env1 L1 = .rt w L2 ∧ R env2 L2)) →
    ∃ env' L', R env' L' ∧ forL g body (xs.map enc) env L = if xs.all p then .nx env' L' else .rt w L'
  | [], env, L, h, _ => ⟨env, L, h, rfl⟩
  | x :: xs, env, L, h, k => by
    obtain ⟨env1, L1, e1, h1⟩ := k x List.mem_cons_self env L h
    cases hp : p x with
    | true =>
      rw [hp] at h1
      obtain ⟨env2, L2, e2, h2⟩ := h1
      obtain ⟨env', L', h3, e3⟩ := forL_all enc R p w xs env2 L2 h2 fun y hy => k y (List.mem_cons_of_mem _ hy)
      refine ⟨env', L', h3, ?_⟩
      rw [List.map_cons, List.all_cons, hp, Bool.true_and]
      unfold forL
      rw [e1]
      rcases e2 with e2 | e2 <;> simp only [e2] <;> exact e3
    | false =>
      rw [hp] at h1
      obtain ⟨env2, L2, e2, h2⟩ := h1
      refine ⟨env2, L2, h2, ?_⟩
      rw [List.map_cons, List.all_cons, hp, Bool.false_and]
      unfold forL
      rw [e1]
      simp only [e2]
      rfl
theorem while_inv {t : En → LH → Res Bool} {body : SFn} {I : Nat → En → LH → Prop} {J : En → LH → Prop}
    (h : ∀ n env L, I n env L → (∃ L1, t env L = .ok false L1 ∧ J env L1) ∨ (∃ L1, t env L = .ok true L1 ∧ ∃ env2 L2, (body env L1 = .nx env2 L2 ∨ body env L1 = .ct env2 L2) ∧ ∃ m, m < n ∧ I m env2 L2)) {n : Nat} {env : En} {L : LH} (h0 : I n env L) :
    ∃ env' L', sWhile t body env L = .nx env' L' ∧ J env' L' := by
  have go : ∀ n env L, I n env L → ∃ k env' L', whileL t body k env L = .nx env' L' ∧ J env' L' := by
    intro n
    induction n using Nat.strongRecOn with
    | ind n ih =>
      intro env L hI
      rcases h n env L hI with ⟨L1, e1, j⟩ | ⟨L1, e1, env2, L2, e2, m, hm, i2⟩
      · exact ⟨1, env, L1, by simp [whileL, e1], j⟩
      · obtain ⟨k, env', L', e3, j⟩ := ih m hm env2 L2 i2
        refine ⟨k + 1, env', L', ?_, j⟩
        unfold whileL
        rw [e1]
        simp only [then_ok, if_pos]
        rcases e2 with e2 | e2 <;> simp only [e2] <;> exact e3
  obtain ⟨k, env', L', e, j⟩ := go n env L h0
  exact ⟨env', L', sWhile_eq e (by simp), j⟩
def insK {κ : Type} [DecidableEq κ] (ks : List κ) (k : κ) : List κ := if k ∈ ks then ks else ks ++ [k]
theorem mem_insK {κ : Type} [DecidableEq κ] {ks : List κ} {k x : κ} : x ∈ insK ks k ↔ x ∈ ks ∨ x = k := by
  unfold insK
  split
  · constructor
    · exact .inl
    · rintro (h | rfl)
      · exact h
      · assumption
  · simp
theorem nodup_insK {κ : Type} [DecidableEq κ] {ks : List κ} {k : κ} (h : ks.Nodup) : (insK ks k).Nodup := by
  unfold insK
  split
  · exact h
  · rw [List.nodup_append]
    exact ⟨h, by simp, fun x hx y hy => by have : y = k := by simpa using hy
                                           rw [this]; rintro rfl; contradiction⟩
def tts {κ : Type} (ks : List κ) (w : Va) : List (κ × Va) := ks.map fun k => (k, w)
theorem alook_tts {κ : Type} [DecidableEq κ] (w : Va) (k : κ) : ∀ ks : List κ, alook (tts ks w) k = if k ∈ ks then some w else none
  | [] => by simp [tts]
  | a :: r => by
    have ih := alook_tts w k r
    unfold tts at ih ⊢
    rw [List.map_cons, alook_cons, ih]
    by_cases h : a = k
    · simp [h]
    · have : ¬ k = a := fun z => h z.symm
      simp [h, this]
theorem aput_tts {κ : Type} [DecidableEq κ] (w : Va) (k : κ) (ks : List κ) : aput (tts ks w) k w = tts (insK ks k) w := by
  unfold aput tIx.aput insK tts
  have e : ((ks.map fun k => (k, w)).any fun kv => decide (kv.1 = k)) = decide (k ∈ ks) := by
    rw [List.any_map, Bool.eq_iff_iff]
    simp only [List.any_eq_true, Function.comp, decide_eq_true_eq]
    constructor
    · rintro ⟨x, h1, rfl⟩; exact h1
    · intro h; exact ⟨k, h, rfl⟩
  rw [e]
  by_cases h : k ∈ ks
  · simp only [h, decide_true, if_pos, List.map_map, if_true]
    apply List.map_congr_left
    intro x _
    simp only [Function.comp]
    split <;> simp
  · simp [h]
theorem tts_length {κ : Type} (ks : List κ) (w : Va) : (tts ks w).length = ks.length := by simp [tts]
def once {κ : Type} [DecidableEq κ] (xs : List κ) : List κ := xs.foldl insK []
theorem mem_foldl_insK {κ : Type} [DecidableEq κ] {x : κ} : ∀ (xs ks : List κ), x ∈ xs.foldl insK ks ↔ x ∈ ks ∨ x ∈ xs
  | [], ks => by simp
  | a :: r, ks => by
    rw [List.foldl_cons, mem_foldl_insK r, mem_insK, List.mem_cons, or_assoc]
theorem mem_once {κ : Type} [DecidableEq κ] {x : κ} {xs : List κ} : x ∈ once xs ↔ x ∈ xs := by simp [once, mem_foldl_insK]
theorem len_foldl_insK {κ : Type} [DecidableEq κ] : ∀ (xs ks : List κ), (xs.foldl insK ks).length ≤ ks.length + xs.length
  | [], ks => by simp
  | a :: r, ks => by
    have := len_foldl_insK r (insK ks a)
    have h : (insK ks a).length ≤ ks.length + 1 := by unfold insK; split <;> simp
    simp only [List.foldl_cons, List.length_cons]
    omega
theorem len_once {κ : Type} [DecidableEq κ] (xs : List κ) : (once xs).length ≤ xs.length := by have := len_foldl_insK xs ([] : List κ); unfold once; simpa using this
theorem dcompL_tts {g : Va → En → LH → Res En} {t : En → LH → Res Bool} {fk fv : EF} {env : En} {L : LH} {w : Va} {α : Type} (enc : α → Va) (p : α → Bool) (h : α → Int) : ∀ (xs : List α) (ks : List Int),
    (∀ x ∈ xs, ∃ env1, g (enc x) env L = .ok env1 L ∧ t env1 L = .ok (p x) L ∧ (p x = true → fk env1 L = .ok (.d (.int (h x))) L ∧ fv env1 L = .ok w L)) → ks.length + xs.length ≤ sizeLine →
    dcompL g t fk fv (xs.map enc) (tts ks w) env L = .ok (tts (((xs.filter p).map h).foldl insK ks) w) L
  | [], _, _, _ => rfl
  | x :: xs, ks, k, hz => by
    obtain ⟨env1, e1, e2, e3⟩ := k x List.mem_cons_self
    rw [List.map_cons]
    unfold dcompL
    rw [e1]
    simp only [e2]
    simp only [List.length_cons] at hz
    cases hp : p x with
    | true =>
      obtain ⟨e4, e5⟩ := e3 hp
      have hl : (insK ks (h x)).length ≤ ks.length + 1 := by unfold insK; split <;> simp
      simp only [e4, e5, if_true, tts_length]
      rw [if_pos (by omega), aput_tts, dcompL_tts enc p h xs _ (fun y hy => k y (List.mem_cons_of_mem _ hy)) (by omega)]
      simp [hp]
    | false =>
      simp only [Bool.false_eq_true, if_false]
      rw [dcompL_tts enc p h xs _ (fun y hy => k y (List.mem_cons_of_mem _ hy)) (by omega)]
      simp [hp]
theorem fDComp_tts {s : Srcf} {g : Va → En → LH → Res En} {t : En → LH → Res Bool} {fk fv : EF} {vs : List Nat} {env : En} {L : LH} {w : Va} {α : Type} (enc : α → Va) (p : α → Bool) (h : α → Int) (xs : List α)
    (hs : s env L = .ok (xs.map enc, none) L) (hz : xs.length ≤ sizeLine) (k : ∀ x ∈ xs, ∃ env1, g (enc x) (wipeE env vs) L = .ok env1 L ∧ t env1 L = .ok (p x) L ∧ (p x = true → fk env1 L = .ok (.d (.int (h x))) L ∧ fv env1 L = .ok w L)) :
    fDComp s g t fk fv vs env L = .ok (.di (tts (once ((xs.filter p).map h)) w)) L := by
  unfold fDComp
  rw [hs]
  simp only [Res.bind_ok, lockL_none]
  have := dcompL_tts (g := g) (t := t) (fk := fk) (fv := fv) (env := wipeE env vs) (L := L) (w := w) enc p h xs [] k (by simpa using hz)
  rw [show tts ([] : List Int) w = [] from rfl] at this
  rw [this]
  rfl
theorem compL_ty {g : Va → En → LH → Res En} {t : En → LH → Res Bool} {f : EF} {env : En} {L : LH} {α : Type} (enc : α → Va) (p : α → Bool) (h : α → Va) : ∀ (xs : List α),
    (∀ x ∈ xs, ∃ env1, g (enc x) env L = .ok env1 L ∧ t env1 L = .ok (p x) L ∧ (p x = true → f env1 L = .ok (h x) L)) →
    compL g t f (xs.map enc) env L = .ok ((xs.filter p).map h) L
  | [], _ => rfl
  | x :: xs, k => by
    obtain ⟨env1, e1, e2, e3⟩ := k x List.mem_cons_self
    have ih := compL_ty (g := g) (t := t) (f := f) (env := env) (L := L) enc p h xs fun y hy => k y (List.mem_cons_of_mem _ hy)
    rw [List.map_cons]
    unfold compL
    rw [e1]
    simp only [e2]
    cases hp : p x with
    | true => simp [e3 hp, ih, hp]
    | false => simp [ih, hp]
theorem fComp_ty {s : Srcf} {g : Va → En → LH → Res En} {t : En → LH → Res Bool} {f : EF} {vs : List Nat} {env : En} {L : LH} {α : Type} (enc : α → Va) (p : α → Bool) (h : α → Va) (xs : List α)
    (hs : s env L = .ok (xs.map enc, none) L) (hz : xs.length ≤ sizeLine) (k : ∀ x ∈ xs, ∃ env1, g (enc x) (wipeE env vs) L = .ok env1 L ∧ t env1 L = .ok (p x) L ∧ (p x = true → f env1 L = .ok (h x) L)) :
    fComp s g t f vs env L = .ok (.lst ((xs.filter p).map h)) L := by
  unfold fComp
  rw [hs]
  simp only [Res.bind_ok, List.length_map, if_pos hz, lockL_none]
  rw [compL_ty enc p h xs k]
  simp
theorem fComp_tym {s : Srcf} {g : Va → En → LH → Res En} {f : EF} {vs : List Nat} {env : En} {L : LH} {α : Type} (enc : α → Va) (h : α → Va) (xs : List α)
    (hs : s env L = .ok (xs.map enc, none) L) (hz : xs.length ≤ sizeLine) (k : ∀ x ∈ xs, ∃ env1, g (enc x) (wipeE env vs) L = .ok env1 L ∧ f env1 L = .ok (h x) L) :
    fComp s g tTrue f vs env L = .ok (.lst (xs.map h)) L := by
  have := fComp_ty (s := s) (g := g) (t := tTrue) (f := f) (vs := vs) (env := env) (L := L) enc (fun _ => true) h xs hs hz fun x hx => by
    obtain ⟨e, h1, h2⟩ := k x hx
    exact ⟨e, h1, rfl, fun _ => h2⟩
  rwa [List.filter_eq_self.mpr (fun _ _ => rfl)] at this
theorem srcR1_int {fs : En → LH → Res (List Va)} {i : Int} {env : En} {L L1 : LH} (h : fs env L = .ok [.d (.int i)] L1) (rg : -4611686018427387904 ≤ i ∧ i < 4611686018427387904) : srcR1 fs env L = .ok (rngV 0 i.toNat, none) L1 := by
  simp [h, rg]
theorem srcR1_nat {fs : En → LH → Res (List Va)} {n : Nat} {env : En} {L L1 : LH} (h : fs env L = .ok [.d (.int (n : Int))] L1) (hn : n ≤ sizeLine + 1) : srcR1 fs env L = .ok (rngV 0 n, none) L1 := by
  have hs : sizeLine = 16777216 := sizeLine_eq
  have := srcR1_int h ⟨by omega, by omega⟩
  rwa [Int.toNat_natCast] at this
theorem srcR2_int {fs : En → LH → Res (List Va)} {i j : Int} {env : En} {L L1 : LH} (h : fs env L = .ok [.d (.int i), .d (.int j)] L1) (rg : -4611686018427387904 ≤ i ∧ i < 4611686018427387904) (rg2 : -4611686018427387904 ≤ j ∧ j < 4611686018427387904) : srcR2 fs env L = .ok (rngV i (j - i).toNat, none) L1 := by
  simp [h, rg, rg2]
end L2.HW
namespace L2.HW.G
def Pth (E : Int → Int → Prop) : Int → List Int → Int → Prop
  | x, [], y => x = y
  | x, z :: l, y => E x z ∧ Pth E z l y
section
variable {E : Int → Int → Prop}
theorem pth_app : ∀ {l m : List Int} {x y z : Int}, Pth E x l y → Pth E y m z → Pth E x (l ++ m) z
  | [], _, _, _, _, h, k => by cases h; exact k
  | _ :: _, _, _, _, _, ⟨h1, h2⟩, k => ⟨h1, pth_app h2 k⟩
theorem pth_split : ∀ {l m : List Int} {x z : Int}, Pth E x (l ++ m) z → ∃ y, Pth E x l y ∧ Pth E y m z
  | [], _, x, _, h => ⟨x, rfl, h⟩
  | _ :: _, _, _, _, ⟨h1, h2⟩ => by
    obtain ⟨y, a, b⟩ := pth_split h2
    exact ⟨y, ⟨h1, a⟩, b⟩
theorem pth_last : ∀ {l : List Int} {x y : Int}, Pth E x l y → l ≠ [] → ∃ i, l = i ++ [y]
  | [], _, _, _, h => absurd rfl h
  | [z], _, _, ⟨_, h⟩, _ => by cases h; exact ⟨[], rfl⟩
  | z :: a :: l, _, _, ⟨_, h⟩, _ => by
    obtain ⟨i, e⟩ := pth_last h (by simp)
    exact ⟨z :: i, by rw [e]; rfl⟩
theorem pth_at {l : List Int} {x y q : Int} (h : Pth E x l y) (hq : q ∈ l) : ∃ l1 l2, l = l1 ++ l2 ∧ Pth E x l1 q ∧ Pth E q l2 y ∧ l1 ≠ [] := by
  obtain ⟨a, b, e⟩ := List.append_of_mem hq
  have e2 : l = (a ++ [q]) ++ b := by rw [e]; simp
  rw [e2] at h
  obtain ⟨q', h1, h2⟩ := pth_split h
  obtain ⟨i, e3⟩ := pth_last h1 (by simp)
  obtain ⟨_, e4⟩ := List.append_inj' e3 rfl
  have : q = q' := by simpa using e4
  subst this
  exact ⟨a ++ [q], b, e2, h1, h2, by simp⟩
theorem pth_mono {F : Int → Int → Prop} (k : ∀ x y, E x y → F x y) : ∀ {l : List Int} {x y : Int}, Pth E x l y → Pth F x l y
  | [], _, _, h => h
  | _ :: _, _, _, ⟨h1, h2⟩ => ⟨k _ _ h1, pth_mono k h2⟩
variable {ρ : Int → Nat} (hρ : ∀ x y, E x y → ρ x < ρ y)
include hρ
theorem rk_mem : ∀ {l : List Int} {x y : Int}, Pth E x l y → ∀ q ∈ l, ρ x < ρ q
  | [], _, _, _, _, hq => nomatch hq
  | z :: l, x, y, ⟨h1, h2⟩, q, hq => by
    have := hρ _ _ h1
    rcases List.mem_cons.mp hq with rfl | hq
    · exact this
    · have := rk_mem h2 q hq; omega
theorem rk_end {l : List Int} {x y : Int} (h : Pth E x l y) : ρ x ≤ ρ y ∧ (l ≠ [] → ρ x < ρ y) := by
  by_cases e : l = []
  · subst e; cases h; exact ⟨Nat.le_refl _, fun z => absurd rfl z⟩
  · obtain ⟨i, e2⟩ := pth_last h e
    have := rk_mem hρ h y (by rw [e2]; simp)
    exact ⟨by omega, fun _ => this⟩
theorem rk_le : ∀ {l : List Int} {x y : Int}, Pth E x l y → ∀ q ∈ l, ρ q ≤ ρ y
  | [], _, _, _, _, hq => nomatch hq
  | z :: l, x, y, ⟨h1, h2⟩, q, hq => by
    rcases List.mem_cons.mp hq with rfl | hq
    · exact (rk_end hρ h2).1
    · exact rk_le h2 q hq
theorem rk_lt {l : List Int} {x y : Int} (h : Pth E x l y) : ∀ q ∈ l.dropLast, ρ q < ρ y := fun q hq => by
  have hm := List.dropLast_subset l hq
  obtain ⟨l1, l2, e, h1, h2, n⟩ := pth_at h hm
  have := rk_end hρ h2
  refine this.2 fun e2 => ?_
  have : Pth E q l2 y := h2
  rw [e2] at this
  obtain rfl : q = y := this
  subst e2
  rw [List.append_nil] at e
  obtain ⟨i, e3⟩ := pth_last h (by rintro rfl; cases hm)
  rw [e3, List.dropLast_concat] at hq
  -- q twice
  obtain ⟨a, b, e4⟩ := List.append_of_mem hq
  have h5 : Pth E x (a ++ q :: (b ++ [q])) q := by rw [e3, e4] at h; simpa using h
  obtain ⟨q', h6, h7⟩ := pth_split h5
  have := rk_mem hρ h7.2 q (by simp)
  omega
theorem pth_nodup : ∀ {l : List Int} {x y : Int}, Pth E x l y → (x :: l).Nodup
  | [], _, _, _ => by simp
  | z :: l, x, y, h => by
    have ih := pth_nodup h.2
    refine List.nodup_cons.mpr ⟨fun hm => ?_, ih⟩
    have := rk_mem hρ h x hm
    omega
end
structure Cr (E : Int → Int → Prop) (b e : Int) (S A1 A2 R1 R2 B Q : List Int) (w x v z : Int) : Prop where
  s : Pth E b S w
  a1 : Pth E w A1 x
  a2 : Pth E x A2 v
  r1 : Pth E v R1 z
  r2 : Pth E z R2 e
  pb : Pth E w B v
  pq : Pth E x Q z
  n1 : A1 ≠ []
  n2 : A2 ≠ []
  n3 : R1 ≠ []
  nd : (b :: (S ++ A1 ++ A2 ++ R1 ++ R2 ++ B.dropLast ++ Q.dropLast)).Nodup
def Crosses (E : Int → Int → Prop) (b e : Int) : Prop := ∃ S A1 A2 R1 R2 B Q w x v z, Cr E b e S A1 A2 R1 R2 B Q w x v z
end L2.HW.G
namespace L2.HW.G
section
variable {E : Int → Int → Prop}
theorem last_mem {l : List Int} {x y : Int} (h : Pth E x l y) : y ∈ x :: l := by
  by_cases e : l = []
  · subst e; cases h; simp
  · obtain ⟨i, rfl⟩ := pth_last h e
    simp
variable {b e : Int} {ρ : Int → Nat} (hρ : ∀ x y, E x y → ρ x < ρ y) (reach : ∀ x y, E x y → (∃ l, Pth E b l x) ∧ ∃ l, Pth E y l e)
  (irr : ∀ x, x ≠ b → x ≠ e → ∀ a c, E a x → E x c → (∃ a', a' ≠ a ∧ E a' x) ∨ ∃ c', c' ≠ c ∧ E x c')
include hρ reach
include irr
end
end L2.HW.G
namespace L2.HW.G
structure Short (E E' : Int → Int → Prop) (p a c : Int) : Prop where
  inn : ∀ x, E x p → x = a
  out : ∀ y, E p y → y = c
  keep : ∀ x y, E x y → x ≠ p → y ≠ p → E' x y
  new : E' a c
  ea : E a p
  ec : E p c
section
variable {E E' : Int → Int → Prop} {p a c : Int} {ρ : Int → Nat} (hρ : ∀ x y, E x y → ρ x < ρ y) (sh : Short E E' p a c)
include hρ sh
theorem sh_ne : a ≠ p ∧ c ≠ p := by
  have h1 := hρ _ _ sh.ea
  have h2 := hρ _ _ sh.ec
  exact ⟨fun z => by rw [z] at h1; omega, fun z => by rw [z] at h2; omega⟩
theorem contract : ∀ (n : Nat) {l : List Int} {x y : Int}, l.length ≤ n → Pth E x l y → x ≠ p → y ≠ p → Pth E' x (l.filter (fun q => decide (q ≠ p))) y
  | 0, l, x, y, hn, h, _, _ => by
    have : l = [] := List.length_eq_zero_iff.mp (by omega)
    subst this
    exact h
  | n + 1, [], x, y, hn, h, _, _ => h
  | n + 1, z :: l, x, y, hn, ⟨h1, h2⟩, hx, hy => by
    obtain ⟨_, cp⟩ := sh_ne hρ sh
    simp only [List.length_cons] at hn
    by_cases zp : z = p
    · rw [zp] at h1 h2
      have xa := sh.inn x h1
      rw [List.filter_cons_of_neg (by simp [zp])]
      cases l with
      | nil => exact absurd (show p = y from h2).symm hy
      | cons z' l' =>
        have zc := sh.out z' h2.1
        have h3 := h2.2
        rw [zc] at h3
        simp only [List.length_cons] at hn
        rw [zc, List.filter_cons_of_pos (by simpa using cp), xa]
        exact ⟨sh.new, contract n (by omega) h3 cp hy⟩
    · rw [List.filter_cons_of_pos (by simpa using zp)]
      exact ⟨sh.keep x z h1 hx zp, contract n (by omega) h2 zp hy⟩
end
theorem head_step {E : Int → Int → Prop} {x y : Int} {l : List Int} (h : Pth E x l y) (n : l ≠ []) : ∃ d t, l = d :: t ∧ E x d := by
  cases l with
  | nil => exact absurd rfl n
  | cons d t => exact ⟨d, t, rfl, h.1⟩
theorem last_step {E : Int → Int → Prop} {x y : Int} {l : List Int} (h : Pth E x l y) (n : l ≠ []) : ∃ d, d ∈ x :: l.dropLast ∧ E d y := by
  obtain ⟨i, rfl⟩ := pth_last h n
  obtain ⟨d, h1, h2⟩ := pth_split h
  rw [List.dropLast_concat]
  exact ⟨d, last_mem h1, h2.1⟩
theorem last_in {E : Int → Int → Prop} {x y : Int} {l : List Int} (h : Pth E x l y) (n : l ≠ []) : y ∈ l := by
  obtain ⟨i, rfl⟩ := pth_last h n
  simp
theorem filter_last {p y : Int} {l : List Int} {E : Int → Int → Prop} {x : Int} (h : Pth E x l y) (hy : y ≠ p) : (l.filter fun q => decide (q ≠ p)).dropLast = l.dropLast.filter fun q => decide (q ≠ p) := by
  by_cases n : l = []
  · subst n; rfl
  · obtain ⟨i, rfl⟩ := pth_last h n
    rw [List.filter_append, List.dropLast_concat, List.filter_cons_of_pos (by simpa using hy)]
    simp
theorem nd_two {l m n : List Int} {q : Int} (h : (l ++ m ++ n).Nodup) (h1 : q ∈ l) (h2 : q ∈ n) : False := by
  rw [List.nodup_append] at h
  exact h.2.2 q (List.mem_append_left _ h1) q h2 rfl
theorem cr_contract {E E' : Int → Int → Prop} {p a c b e : Int} {ρ : Int → Nat} (hρ : ∀ x y, E x y → ρ x < ρ y) (sh : Short E E' p a c) (hb : b ≠ p) (he : e ≠ p) (h : Crosses E b e) : Crosses E' b e := by
  obtain ⟨S, A1, A2, R1, R2, B, Q, w, x, v, z, C⟩ := h
  have r1 := (rk_end hρ C.a1).2 C.n1
  have r2 := (rk_end hρ C.a2).2 C.n2
  have r3 := (rk_end hρ C.r1).2 C.n3
  have nB : B ≠ [] := by rintro rfl; have : w = v := C.pb; subst this; omega
  have nQ : Q ≠ [] := by rintro rfl; have : x = z := C.pq; subst this; omega
  have nd := (List.nodup_cons.mp C.nd).2
  have xA := last_in C.a1 C.n1
  have vA := last_in C.a2 C.n2
  have zR := last_in C.r1 C.n3
  -- pairs of parts
  have dA1A2 : ∀ q, q ∈ A1 → q ∈ A2 → False := fun q h1 h2 => by
    have : ((S ++ A1) ++ [] ++ A2).Nodup := by
      simp only [List.append_nil]
      exact List.Nodup.sublist (by simp only [List.append_assoc]; exact (List.Sublist.refl S).append ((List.Sublist.refl A1).append (List.sublist_append_left A2 _))) nd
    exact nd_two this (List.mem_append_right _ h1) h2
  have dP : ∀ q, q ∈ A1 ∨ q ∈ A2 ∨ q ∈ R1 → (q ∈ B.dropLast ∨ q ∈ Q.dropLast) → False := fun q h1 h2 => by
    have nd2 : ((S ++ A1 ++ A2 ++ R1 ++ R2) ++ [] ++ (B.dropLast ++ Q.dropLast)).Nodup := by simpa using nd
    refine nd_two (q := q) nd2 ?_ (List.mem_append.mpr h2)
    simp only [List.mem_append]
    rcases h1 with h | h | h
    · exact .inl (.inl (.inl (.inr h)))
    · exact .inl (.inl (.inr h))
    · exact .inl (.inr h)
  have dA2R1 : ∀ q, q ∈ A2 → q ∈ R1 → False := fun q h1 h2 => by
    have := rk_le hρ C.a2 q h1
    have := rk_mem hρ C.r1 q h2
    omega
  have inB : ∀ q, q ∈ B → q = v ∨ q ∈ B.dropLast := fun q hq => by
    obtain ⟨i, rfl⟩ := pth_last C.pb nB
    rw [List.dropLast_concat]
    rcases List.mem_append.mp hq with h | h
    · exact .inr h
    · exact .inl (by simpa using h)
  have inQ : ∀ q, q ∈ Q → q = z ∨ q ∈ Q.dropLast := fun q hq => by
    obtain ⟨i, rfl⟩ := pth_last C.pq nQ
    rw [List.dropLast_concat]
    rcases List.mem_append.mp hq with h | h
    · exact .inr h
    · exact .inl (by simpa using h)
  have wp : w ≠ p := by
    rintro rfl
    obtain ⟨d1, t1, e1, h1⟩ := head_step C.a1 C.n1
    obtain ⟨d2, t2, e2, h2⟩ := head_step C.pb nB
    have := sh.out _ h1
    have := sh.out _ h2
    have hd : d2 = d1 := by omega
    have m1 : d1 ∈ A1 := by rw [e1]; simp
    have m2 : d1 ∈ B := by rw [e2, hd]; simp
    rcases inB d1 m2 with h | h
    · exact dA1A2 d1 m1 (h ▸ vA)
    · exact dP d1 (.inl m1) (.inl h)
  have xp : x ≠ p := by
    rintro rfl
    obtain ⟨d1, t1, e1, h1⟩ := head_step C.a2 C.n2
    obtain ⟨d2, t2, e2, h2⟩ := head_step C.pq nQ
    have := sh.out _ h1
    have := sh.out _ h2
    have hd : d2 = d1 := by omega
    have m1 : d1 ∈ A2 := by rw [e1]; simp
    have m2 : d1 ∈ Q := by rw [e2, hd]; simp
    rcases inQ d1 m2 with h | h
    · exact dA2R1 d1 m1 (h ▸ zR)
    · exact dP d1 (.inr (.inl m1)) (.inr h)
  have vp : v ≠ p := by
    rintro rfl
    obtain ⟨d1, m1, h1⟩ := last_step C.a2 C.n2
    obtain ⟨d2, m2, h2⟩ := last_step C.pb nB
    have := sh.inn _ h1
    have := sh.inn _ h2
    have hd : d2 = d1 := by omega
    subst hd
    have rx : ρ x ≤ ρ d2 := by
      rcases List.mem_cons.mp m1 with h | h
      · rw [h]; exact Nat.le_refl _
      · exact Nat.le_of_lt (rk_mem hρ C.a2 d2 (List.dropLast_subset _ h))
    rcases List.mem_cons.mp m2 with h | h
    · rw [h] at rx; omega
    · rcases List.mem_cons.mp m1 with h' | h'
      · exact dP d2 (.inl (h' ▸ xA)) (.inl h)
      · exact dP d2 (.inr (.inl (List.dropLast_subset _ h'))) (.inl h)
  have zp : z ≠ p := by
    rintro rfl
    obtain ⟨d1, m1, h1⟩ := last_step C.r1 C.n3
    obtain ⟨d2, m2, h2⟩ := last_step C.pq nQ
    have := sh.inn _ h1
    have := sh.inn _ h2
    have hd : d2 = d1 := by omega
    subst hd
    have rx : ρ v ≤ ρ d2 := by
      rcases List.mem_cons.mp m1 with h | h
      · rw [h]; exact Nat.le_refl _
      · exact Nat.le_of_lt (rk_mem hρ C.r1 d2 (List.dropLast_subset _ h))
    rcases List.mem_cons.mp m2 with h | h
    · rw [h] at rx; omega
    · rcases List.mem_cons.mp m1 with h' | h'
      · exact dP d2 (.inr (.inl (h' ▸ vA))) (.inr h)
      · exact dP d2 (.inr (.inr (List.dropLast_subset _ h'))) (.inr h)
  have ne : ∀ {l : List Int} {q : Int}, q ∈ l → q ≠ p → (l.filter fun q => decide (q ≠ p)) ≠ [] := fun {l q} h n hh => by
    have : q ∈ l.filter fun q => decide (q ≠ p) := List.mem_filter.mpr ⟨h, by simpa using n⟩
    rw [hh] at this
    cases this
  have con := fun {l : List Int} {x y : Int} (h : Pth E x l y) (hx : x ≠ p) (hy : y ≠ p) => contract hρ sh l.length (Nat.le_refl _) h hx hy
  refine ⟨_, _, _, _, _, _, _, w, x, v, z, con C.s hb wp, con C.a1 wp xp, con C.a2 xp vp, con C.r1 vp zp, con C.r2 zp he, con C.pb wp vp, con C.pq xp zp, ne xA xp, ne vA vp, ne zR zp, ?_⟩
  rw [filter_last C.pb vp, filter_last C.pq zp]
  have : b :: ((S.filter fun q => decide (q ≠ p)) ++ (A1.filter fun q => decide (q ≠ p)) ++ (A2.filter fun q => decide (q ≠ p)) ++ (R1.filter fun q => decide (q ≠ p)) ++ (R2.filter fun q => decide (q ≠ p)) ++ (B.dropLast.filter fun q => decide (q ≠ p)) ++ (Q.dropLast.filter fun q => decide (q ≠ p))) = (b :: (S ++ A1 ++ A2 ++ R1 ++ R2 ++ B.dropLast ++ Q.dropLast)).filter fun q => decide (q ≠ p) := by
    rw [List.filter_cons_of_pos (by simpa using hb)]
    simp only [List.filter_append]
  rw [this]
  exact List.Nodup.sublist List.filter_sublist C.nd
end L2.HW.G
namespace L2.HW.G
def stp : Int → List Int → List (Int × Int)
  | _, [] => []
  | x, z :: l => (x, z) :: stp z l
end L2.HW.G
namespace L2.HW
open PySem PySem.Spec PyProof.Rows
structure BF (γ Arc : Type) where
  tl : Arc → Int
  hd : Arc → Int
  ext : γ → Arc → γ
  le : γ → γ → Bool
structure BF.Ok {γ Arc : Type} (B : BF γ Arc) : Prop where
  refl : ∀ x, B.le x x = true
  trans : ∀ {x y z}, B.le x y = true → B.le y z = true → B.le x z = true
  total : ∀ x y, B.le x y = true ∨ B.le y x = true
  mono : ∀ {x y} a, B.le x y = true → B.le (B.ext x a) (B.ext y a) = true
namespace BF
variable {γ Arc : Type} (B : BF γ Arc)
def rel (ks : List (Int × γ)) (a : Arc) : List (Int × γ) := match alook ks (B.tl a) with
  | none => ks
  | some x => match alook ks (B.hd a) with
    | none => aput ks (B.hd a) (B.ext x a)
    | some y => if B.le y (B.ext x a) then ks else aput ks (B.hd a) (B.ext x a)
def round (A : List Arc) (ks : List (Int × γ)) : List (Int × γ) := A.foldl B.rel ks
def run (A : List Arc) : Nat → List (Int × γ) → List (Int × γ)
  | 0, ks => ks
  | n + 1, ks => run A n (B.round A ks)
def Low (ks ks' : List (Int × γ)) : Prop := ∀ k y, alook ks k = some y → ∃ y', alook ks' k = some y' ∧ B.le y' y = true
def pth (A : List Arc) : Int → List Arc → Int → Prop
  | a, [], b => a = b
  | a, c :: p, b => c ∈ A ∧ B.tl c = a ∧ pth A (B.hd c) p b
def ev (z : γ) (p : List Arc) : γ := p.foldl B.ext z
variable {B}
theorem Low.refl (o : B.Ok) (ks : List (Int × γ)) : B.Low ks ks := fun _ y h => ⟨y, h, o.refl y⟩
theorem Low.trans (o : B.Ok) {a b c : List (Int × γ)} (h : B.Low a b) (k : B.Low b c) : B.Low a c := fun j y e => by
  obtain ⟨y1, e1, l1⟩ := h j y e
  obtain ⟨y2, e2, l2⟩ := k j y1 e1
  exact ⟨y2, e2, o.trans l2 l1⟩
theorem pth_app {A : List Arc} {b c : Int} {q : List Arc} : ∀ {p : List Arc} {a : Int}, B.pth A a p b → B.pth A b q c → B.pth A a (p ++ q) c
  | [], _, h, k => by cases h; exact k
  | x :: p, a, ⟨h1, h2, h3⟩, k => ⟨h1, h2, pth_app h3 k⟩
end BF
namespace BF
variable {γ Arc : Type} {B : BF γ Arc}
end BF
end L2.HW
namespace L2.HW
open PySem PySem.Spec PyProof.Rows
@[simp] theorem at_0 {α : Type} (a : α) (l : List α) : atI (a :: l) 0 = some a := by simp [atI, ixN]
@[simp] theorem at_1 {α : Type} (a b : α) (l : List α) : atI (a :: b :: l) 1 = some b := by
  have : (1 : Int) < l.length + 1 + 1 := by omega
  simp [atI, ixN, this]
@[simp] theorem at_2 {α : Type} (a b c : α) (l : List α) : atI (a :: b :: c :: l) 2 = some c := by
  have : (2 : Int) < l.length + 1 + 1 + 1 := by omega
  simp [atI, ixN, this]
@[simp] theorem at_3 {α : Type} (a b c d : α) (l : List α) : atI (a :: b :: c :: d :: l) 3 = some d := by
  have : (3 : Int) < l.length + 1 + 1 + 1 + 1 := by omega
  simp [atI, ixN, this]
structure Rd where
  u : Int
  v : Int
  l : Int
  w : Int
deriving DecidableEq, Repr
def Rd.d (r : Rd) : PyData := .tuple [.int r.u, .int r.v, .int r.l, .int r.w]
structure Wb where
  m : Int
  b : Int
  e : Int
  rs : List Rd
deriving DecidableEq, Repr
def Wb.d (W : Wb) : PyData := .tuple [.int W.m, .int W.b, .int W.e, .tuple (W.rs.map Rd.d)]
theorem keys_aput {γ : Type} (s : List (Int × γ)) (k : Int) (v : γ) : (aput s k v).map (·.1) = insK (s.map (·.1)) k := by
  unfold aput tIx.aput insK
  by_cases h : s.any (fun kv => decide (kv.1 = k)) = true
  · rw [if_pos h, if_pos (by
      obtain ⟨x, hx, hk⟩ := List.any_eq_true.mp h
      exact List.mem_map.mpr ⟨x, hx, of_decide_eq_true hk⟩), List.map_map]
    refine List.map_congr_left fun p _ => ?_
    simp only [Function.comp]
    split <;> rfl
  · rw [if_neg h, if_neg (by
      intro hm
      obtain ⟨x, hx, hk⟩ := List.mem_map.mp hm
      exact h (List.any_eq_true.mpr ⟨x, hx, decide_eq_true hk⟩)), List.map_append]
    rfl
def PlKeys {γ : Type} (m : Int) (s : List (Int × γ)) : Prop := (s.map (·.1)).Nodup ∧ ∀ k ∈ s.map (·.1), 0 ≤ k ∧ k < m
theorem PlKeys.put {γ : Type} {m : Int} {s : List (Int × γ)} (h : PlKeys m s) {k : Int} (h0 : 0 ≤ k) (h1 : k < m) (v : γ) : PlKeys m (aput s k v) := by
  unfold PlKeys
  rw [keys_aput]
  refine ⟨nodup_insK h.1, fun x hx => ?_⟩
  rcases mem_insK.mp hx with hx | rfl
  · exact h.2 x hx
  · exact ⟨h0, h1⟩
def frO (fr : List Int) : Ob := .lst (fr.map fun x => Va.d (.int x))
end L2.HW
namespace L2.HW
open PySem PySem.Spec PyProof.Rows
end L2.HW
namespace L2.HW
open PySem PySem.Spec PyProof.Rows
abbrev nI (p : List Nat) : List PyData := p.map fun i : Nat => .int (i : Int)
end L2.HW
namespace L2.HW
open PySem PySem.Spec PyProof.Rows
abbrev Hw := Int × Int × List Nat
def Hw.d (h : Hw) : PyData := .tuple [.int h.1, .int h.2.1, .tuple (nI h.2.2)]
end L2.HW
namespace L2.HW
open PySem PySem.Spec PyProof.Rows
end L2.HW
namespace L2.HW
open PySem PySem.Spec PyProof.Rows
abbrev Row := Int × Int
def Row.d (r : Row) : PyData := .tuple [.int r.1, .int r.2]
theorem log_of {x : Int} {k : Nat} (hk : 0 < k) (h : x.natAbs < 2 ^ k) : x.natAbs.log2 < k := by
  by_cases z : x.natAbs = 0
  · rw [z]; exact hk
  · exact (Nat.log2_lt z).mpr h
end L2.HW
namespace L2.HW.G
open PySem
inductive Tr where
  | rd (i : Nat)
  | nd (w : Bool) (ts : List Tr)
mutual
def Tr.d : Tr → PyData
  | .rd i => .int i
  | .nd w ts => .tuple [.str (if w then "behind" else "beside"), .tuple (Tr.ds ts)]
def Tr.ds : List Tr → List PyData
  | [] => []
  | t :: ts => t.d :: Tr.ds ts
end
mutual
/-- the roads of one way through a tree -/
def rin : Tr → List Nat
  | .rd i => [i]
  | .nd w ts => if w then rins ts else rin1 ts
def rins : List Tr → List Nat
  | [] => []
  | t :: ts => rin t ++ rins ts
def rin1 : List Tr → List Nat
  | [] => []
  | t :: _ => rin t
end
structure Ed where
  u : Int
  v : Int
  t : Tr
def Ed.k (d : Ed) : Int × Int := (d.u, d.v)
abbrev Grp := List ((Int × Int) × List Tr)
def addG (g : Grp) (d : Ed) : Grp := if g.any (fun x => decide (x.1 = d.k)) then g.map (fun x => if x.1 = d.k then (x.1, x.2 ++ [d.t]) else x) else g ++ [(d.k, [d.t])]
def besT : List Tr → Tr
  | [t] => t
  | ts => .nd false ts
def mkE (x : (Int × Int) × List Tr) : Ed := ⟨x.1.1, x.1.2, besT x.2⟩
def mergeE (es : List Ed) : List Ed := (es.foldl addG []).map mkE
def inE (es : List Ed) (p : Int) : List Ed := es.filter fun d => decide (d.v = p)
def outE (es : List Ed) (p : Int) : List Ed := es.filter fun d => decide (d.u = p)
def shortAt (es : List Ed) (p : Int) : Option (List Ed) := match inE es p, outE es p with
  | [x], [y] => some ((es.filter fun d => decide (d.v ≠ p) && decide (d.u ≠ p)) ++ [⟨x.u, y.v, .nd true [x.t, y.t]⟩])
  | _, _ => none
end L2.HW.G
namespace L2.HW.G
open PySem
abbrev Prs := List (Int × Int)
def vsR (ps : Prs) (is : List Nat) : List Int := is.map fun i => ((ps[i]?).map Prod.snd).getD 0
def adjP (ps : Prs) (x y : Int) : Prop := (x, y) ∈ ps
def inn (ps : Prs) (t : Tr) : List Int := (vsR ps (rin t)).dropLast
end L2.HW.G
namespace L2.HW.G
open PySem
end L2.HW.G
namespace L2.HW
abbrev Pr := Int × Int
inductive Rch (ps : List Pr) : Int → Int → Prop
  | refl (x : Int) : Rch ps x x
  | step {x y z : Int} : Rch ps x y → (y, z) ∈ ps → Rch ps x z
theorem Rch.trans {ps : List Pr} {x y z : Int} (h : Rch ps x y) (k : Rch ps y z) : Rch ps x z := by
  induction k with
  | refl => exact h
  | step _ e ih => exact .step ih e
theorem Rch.one {ps : List Pr} {x y : Int} (h : (x, y) ∈ ps) : Rch ps x y := .step (.refl x) h
theorem Rch.mono {ps qs : List Pr} (hs : ∀ p ∈ ps, p ∈ qs) {x y : Int} (h : Rch ps x y) : Rch qs x y := by
  induction h with
  | refl => exact .refl _
  | step _ e ih => exact .step ih (hs _ e)
def reach1 (ps : List Pr) (ks : List Int) : List Int := ps.foldl (fun ks p => if p.1 ∈ ks then insK ks p.2 else ks) ks
theorem reach1_sub {ps : List Pr} : ∀ {ks : List Int} {x : Int}, x ∈ ks → x ∈ reach1 ps ks := by
  induction ps with
  | nil => intro ks x h; exact h
  | cons p r ih =>
    intro ks x h
    unfold reach1
    rw [List.foldl_cons]
    refine ih ?_
    split
    · exact mem_insK.mpr (.inl h)
    · exact h
theorem reach1_len {ps : List Pr} : ∀ {ks : List Int}, ks.length ≤ (reach1 ps ks).length := by
  induction ps with
  | nil => intro ks; exact Nat.le_refl _
  | cons p r ih =>
    intro ks
    unfold reach1
    rw [List.foldl_cons]
    refine Nat.le_trans ?_ ih
    split
    · unfold insK; split <;> simp
    · exact Nat.le_refl _
theorem reach1_nodup {ps : List Pr} : ∀ {ks : List Int}, ks.Nodup → (reach1 ps ks).Nodup := by
  induction ps with
  | nil => intro ks h; exact h
  | cons p r ih =>
    intro ks h
    unfold reach1
    rw [List.foldl_cons]
    refine ih ?_
    split
    · exact nodup_insK h
    · exact h
theorem reach1_eq {ps : List Pr} : ∀ {ks : List Int}, (reach1 ps ks).length = ks.length → (reach1 ps ks = ks ∧ ∀ p ∈ ps, p.1 ∈ ks → p.2 ∈ ks) := by
  induction ps with
  | nil => intro ks _; exact ⟨rfl, fun _ h => nomatch h⟩
  | cons p r ih =>
    intro ks h
    unfold reach1 at h ⊢
    rw [List.foldl_cons] at h ⊢
    have l1 := reach1_len (ps := r) (ks := if p.1 ∈ ks then insK ks p.2 else ks)
    unfold reach1 at l1
    by_cases h1 : p.1 ∈ ks
    · rw [if_pos h1] at h l1 ⊢
      by_cases h2 : p.2 ∈ ks
      · have e : insK ks p.2 = ks := by unfold insK; rw [if_pos h2]
        rw [e] at h ⊢
        obtain ⟨e1, e2⟩ := ih h
        refine ⟨e1, fun q hq => ?_⟩
        rcases List.mem_cons.mp hq with rfl | hq
        · exact fun _ => h2
        · exact e2 q hq
      · have e : (insK ks p.2).length = ks.length + 1 := by unfold insK; rw [if_neg h2]; simp
        omega
    · rw [if_neg h1] at h ⊢
      obtain ⟨e1, e2⟩ := ih h
      refine ⟨e1, fun q hq => ?_⟩
      rcases List.mem_cons.mp hq with rfl | hq
      · exact fun z => absurd z h1
      · exact e2 q hq
theorem reach1_from {ps qs : List Pr} (hs : ∀ p ∈ ps, p ∈ qs) (S : Int → Prop) (hS : ∀ x y, S x → (x, y) ∈ qs → S y) : ∀ {ks : List Int}, (∀ x ∈ ks, S x) → ∀ x ∈ reach1 ps ks, S x := by
  induction ps with
  | nil => intro ks h; exact h
  | cons p r ih =>
    intro ks h
    unfold reach1
    rw [List.foldl_cons]
    refine ih (fun q hq => hs q (List.mem_cons_of_mem _ hq)) fun x hx => ?_
    split at hx
    · rcases mem_insK.mp hx with hx | rfl
      · exact h x hx
      · exact hS _ _ (h _ (by assumption)) (hs p List.mem_cons_self)
    · exact h x hx
def reachN (ps : List Pr) : Nat → List Int → List Int
  | 0, ks => ks
  | n + 1, ks => if (reach1 ps ks).length = ks.length then ks else reachN ps n (reach1 ps ks)
def room (ps : List Pr) (ks : List Int) : Nat := ((once (ps.map (·.2))).filter fun x => decide (x ∉ ks)).length
theorem filter_len_le {α : Type} {p q : α → Bool} : ∀ {xs : List α}, (∀ x ∈ xs, q x = true → p x = true) → (xs.filter q).length ≤ (xs.filter p).length
  | [], _ => Nat.le_refl _
  | x :: xs, h => by
    have ih := filter_len_le (p := p) (q := q) (xs := xs) fun y hy => h y (List.mem_cons_of_mem _ hy)
    have h0 := h x List.mem_cons_self
    cases hq : q x <;> cases hp : p x <;> simp [hq, hp] <;> first | omega | (rw [hq] at h0; simp [hp] at h0)
theorem filter_len_lt {α : Type} {p q : α → Bool} {a : α} : ∀ {xs : List α}, a ∈ xs → p a = true → q a = false → (∀ x ∈ xs, q x = true → p x = true) → (xs.filter q).length < (xs.filter p).length
  | x :: xs, ha, hp, hq, h => by
    rcases List.mem_cons.mp ha with rfl | ha
    · have := filter_len_le (p := p) (q := q) (xs := xs) fun y hy => h y (List.mem_cons_of_mem _ hy)
      simp [hp, hq]; omega
    · have ih := filter_len_lt ha hp hq fun y hy => h y (List.mem_cons_of_mem _ hy)
      have h0 := h x List.mem_cons_self
      cases hq' : q x <;> cases hp' : p x <;> simp [hq', hp'] <;> first | omega | (rw [hq'] at h0; simp [hp'] at h0)
theorem reach1_new {ps qs : List Pr} (hs : ∀ p ∈ ps, p ∈ qs) : ∀ {ks : List Int}, (reach1 ps ks).length ≠ ks.length → ∃ p ∈ ps, p.2 ∉ ks ∧ p.2 ∈ reach1 ps ks := by
  induction ps with
  | nil => intro ks h; exact absurd rfl h
  | cons p r ih =>
    intro ks h
    unfold reach1 at h ⊢
    rw [List.foldl_cons] at h ⊢
    by_cases h1 : p.1 ∈ ks
    · rw [if_pos h1] at h ⊢
      by_cases h2 : p.2 ∈ ks
      · have e : insK ks p.2 = ks := by unfold insK; rw [if_pos h2]
        rw [e] at h ⊢
        obtain ⟨q, hq, h3, h4⟩ := ih (fun q hq => hs q (List.mem_cons_of_mem _ hq)) h
        exact ⟨q, List.mem_cons_of_mem _ hq, h3, h4⟩
      · exact ⟨p, List.mem_cons_self, h2, reach1_sub (mem_insK.mpr (.inr rfl))⟩
    · rw [if_neg h1] at h ⊢
      obtain ⟨q, hq, h3, h4⟩ := ih (fun q hq => hs q (List.mem_cons_of_mem _ hq)) h
      exact ⟨q, List.mem_cons_of_mem _ hq, h3, h4⟩
theorem room_lt {ps : List Pr} {ks : List Int} (h : (reach1 ps ks).length ≠ ks.length) : room ps (reach1 ps ks) < room ps ks := by
  obtain ⟨p, hp, h1, h2⟩ := reach1_new (fun _ h => h) h
  refine filter_len_lt (a := p.2) (mem_once.mpr (List.mem_map_of_mem hp)) (decide_eq_true h1) (by simpa using h2) fun x _ hx => ?_
  simp only [decide_eq_true_eq] at hx ⊢
  exact fun z => hx (reach1_sub z)
theorem room_le (ps : List Pr) (ks : List Int) : room ps ks ≤ ps.length := by
  have h1 := List.length_filter_le (fun x => decide (x ∉ ks)) (once (ps.map (·.2)))
  have h2 := len_once (ps.map (·.2))
  simp only [List.length_map] at h2
  unfold room
  omega
def reach (ps : List Pr) (ks : List Int) : List Int := reachN ps ps.length ks
theorem reachN_closed {ps : List Pr} : ∀ {n : Nat} {ks : List Int}, room ps ks ≤ n → (∀ x ∈ ks, x ∈ reachN ps n ks) ∧ (∀ p ∈ ps, p.1 ∈ reachN ps n ks → p.2 ∈ reachN ps n ks) ∧ (ks.Nodup → (reachN ps n ks).Nodup) ∧ (reach1 ps (reachN ps n ks)).length = (reachN ps n ks).length
  | 0, ks, h => by
    have e : (reach1 ps ks).length = ks.length := by
      by_cases z : (reach1 ps ks).length = ks.length
      · exact z
      · have := room_lt z; omega
    exact ⟨fun x h => h, (reach1_eq e).2, fun h => h, e⟩
  | n + 1, ks, h => by
    unfold reachN
    by_cases z : (reach1 ps ks).length = ks.length
    · rw [if_pos z]
      exact ⟨fun x h => h, (reach1_eq z).2, fun h => h, z⟩
    · rw [if_neg z]
      have hz := room_lt z
      obtain ⟨h1, h2, h3, h4⟩ := reachN_closed (ps := ps) (n := n) (ks := reach1 ps ks) (by omega)
      exact ⟨fun x hx => h1 x (reach1_sub hx), h2, fun hn => h3 (reach1_nodup hn), h4⟩
theorem reachN_from {ps : List Pr} (S : Int → Prop) (hS : ∀ x y, S x → (x, y) ∈ ps → S y) : ∀ {n : Nat} {ks : List Int}, (∀ x ∈ ks, S x) → ∀ x ∈ reachN ps n ks, S x
  | 0, ks, h => h
  | n + 1, ks, h => by
    unfold reachN
    split
    · exact h
    · exact reachN_from S hS (reach1_from (fun _ h => h) S hS h)
theorem mem_reach {ps : List Pr} {ks : List Int} {y : Int} : y ∈ reach ps ks ↔ ∃ x ∈ ks, Rch ps x y := by
  obtain ⟨h1, h2, _⟩ := reachN_closed (ps := ps) (n := ps.length) (ks := ks) (room_le ps ks)
  constructor
  · exact reachN_from (fun y => ∃ x ∈ ks, Rch ps x y) (fun x y ⟨a, ha, r⟩ e => ⟨a, ha, .step r e⟩) (fun x hx => ⟨x, hx, .refl x⟩) y
  · rintro ⟨x, hx, r⟩
    induction r with
    | refl => exact h1 x hx
    | step _ e ih => exact h2 _ e ih
def Rnd (ps : List Pr) : Prop := ∃ p ∈ ps, Rch ps p.2 p.1
def roundB (ps : List Pr) : Bool := ps.any fun p => decide (p.1 ∈ reach ps [p.2])
theorem roundB_iff {ps : List Pr} : roundB ps = true ↔ Rnd ps := by
  unfold roundB Rnd
  simp [List.any_eq_true, mem_reach]
def Acy (ps : List Pr) : Prop := ∃ r : Int → Int, ∀ p ∈ ps, r p.1 < r p.2
theorem Acy.noRnd {ps : List Pr} (h : Acy ps) : ¬ Rnd ps := by
  obtain ⟨r, hr⟩ := h
  have le : ∀ x y, Rch ps x y → r x ≤ r y := fun x y h => by
    induction h with
    | refl => exact Int.le_refl _
    | step _ e ih => have := hr _ e; exact Int.le_trans ih (Int.le_of_lt this)
  rintro ⟨p, hp, k⟩
  have h1 := le _ _ k
  have h2 := hr p hp
  omega
def ends (ps : List Pr) : List Int := once (ps.map (·.1) ++ ps.map (·.2))
theorem mem_ends {ps : List Pr} {p : Pr} (h : p ∈ ps) : p.1 ∈ ends ps ∧ p.2 ∈ ends ps := by
  unfold ends
  rw [mem_once, mem_once]
  exact ⟨List.mem_append_left _ (List.mem_map_of_mem (f := (·.1)) h), List.mem_append_right _ (List.mem_map_of_mem (f := (·.2)) h)⟩
def later (ps : List Pr) (x : Int) : Nat := ((ends ps).filter fun z => decide (z ∈ reach ps [x])).length
theorem later_lt {ps : List Pr} (h : ¬ Rnd ps) {x y : Int} (e : (x, y) ∈ ps) : later ps y < later ps x := by
  refine filter_len_lt (xs := ends ps) (a := x) (p := fun z => decide (z ∈ reach ps [x])) (q := fun z => decide (z ∈ reach ps [y])) (mem_ends e).1 (decide_eq_true (mem_reach.mpr ⟨x, by simp, .refl x⟩)) (decide_eq_false fun z => ?_) fun z _ hz => ?_
  · obtain ⟨a, ha, r⟩ := mem_reach.mp z
    have : a = y := by simpa using ha
    subst this
    exact h ⟨_, e, r⟩
  · obtain ⟨a, ha, r⟩ := mem_reach.mp (of_decide_eq_true hz)
    have : a = y := by simpa using ha
    subst this
    exact decide_eq_true (mem_reach.mpr ⟨x, by simp, (Rch.one e).trans r⟩)
theorem acy_iff {ps : List Pr} : Acy ps ↔ ¬ Rnd ps :=
  ⟨Acy.noRnd, fun h => ⟨fun x => - (later ps x : Int), fun p hp => by have := later_lt h (show (p.1, p.2) ∈ ps from hp); show - (later ps p.1 : Int) < - (later ps p.2 : Int); omega⟩⟩
theorem roundB_acy {ps : List Pr} : roundB ps = false ↔ Acy ps := by
  rw [acy_iff, ← roundB_iff, Bool.not_eq_true]
def prune (ps : List Pr) (S : List Int) : List Int := S.filter fun x => ps.any fun p => decide (p.1 = x) && decide (p.2 ∈ S)
def pruneN (ps : List Pr) : Nat → List Int → List Int
  | 0, S => S
  | n + 1, S => pruneN ps n (prune ps S)
theorem prune_len (ps : List Pr) (S : List Int) : (prune ps S).length ≤ S.length := List.length_filter_le _ _
theorem prune_lt {ps : List Pr} (h : Acy ps) {S : List Int} (hS : S ≠ []) : (prune ps S).length < S.length := by
  by_cases z : (prune ps S).length = S.length
  · exfalso
    have all : ∀ x ∈ S, ∃ p ∈ ps, p.1 = x ∧ p.2 ∈ S := fun x hx => by
      have := (List.length_filter_eq_length_iff).mp z x hx
      obtain ⟨p, hp, h2⟩ := List.any_eq_true.mp this
      simp only [Bool.and_eq_true, decide_eq_true_eq] at h2
      exact ⟨p, hp, h2⟩
    have hn := acy_iff.mp h
    have go : ∀ n x, x ∈ S → later ps x ≤ n → False := by
      intro n
      induction n with
      | zero =>
        intro x hx hl
        obtain ⟨p, hp, rfl, h2⟩ := all x hx
        have := later_lt hn (show (p.1, p.2) ∈ ps from hp)
        omega
      | succ n ih =>
        intro x hx hl
        obtain ⟨p, hp, rfl, h2⟩ := all x hx
        have := later_lt hn (show (p.1, p.2) ∈ ps from hp)
        exact ih p.2 h2 (by omega)
    obtain ⟨x, hx⟩ := List.exists_mem_of_ne_nil S hS
    exact go _ x hx (Nat.le_refl _)
  · have := prune_len ps S
    omega
theorem pruneN_acy {ps : List Pr} (h : Acy ps) : ∀ {n : Nat} {S : List Int}, S.length ≤ n → pruneN ps n S = []
  | 0, S, hl => List.eq_nil_of_length_eq_zero (Nat.le_zero.mp hl)
  | n + 1, S, hl => by
    unfold pruneN
    refine pruneN_acy h ?_
    by_cases z : S = []
    · subst z; simp [prune]
    · have := prune_lt h z; omega
theorem pruneN_rnd {ps : List Pr} {C : List Int} (hC : ∀ x ∈ C, ∃ p ∈ ps, p.1 = x ∧ p.2 ∈ C) : ∀ {n : Nat} {S : List Int}, (∀ x ∈ C, x ∈ S) → ∀ x ∈ C, x ∈ pruneN ps n S
  | 0, _, h => h
  | n + 1, S, h => by
    unfold pruneN
    refine pruneN_rnd hC fun x hx => ?_
    obtain ⟨p, hp, h1, h2⟩ := hC x hx
    unfold prune
    rw [List.mem_filter]
    refine ⟨h x hx, List.any_eq_true.mpr ⟨p, hp, ?_⟩⟩
    simp [h1, h p.2 h2]
theorem rch_row {ps : List Pr} {y x : Int} (h : Rch ps y x) : ∃ C : List Int, y ∈ C ∧ x ∈ C ∧ ∀ z ∈ C, z = x ∨ ∃ p ∈ ps, p.1 = z ∧ p.2 ∈ C := by
  induction h with
  | refl => exact ⟨[y], by simp, by simp, fun z hz => .inl (by simpa using hz)⟩
  | @step y z' _ e ih =>
    obtain ⟨C, h1, h2, h3⟩ := ih
    refine ⟨z' :: C, List.mem_cons_of_mem _ h1, List.mem_cons_self, fun w hw => ?_⟩
    rcases List.mem_cons.mp hw with rfl | hw
    · exact .inl rfl
    · rcases h3 w hw with rfl | ⟨p, hp, h4, h5⟩
      · exact .inr ⟨_, e, rfl, List.mem_cons_self⟩
      · exact .inr ⟨p, hp, h4, List.mem_cons_of_mem _ h5⟩
theorem prune_iff (ps : List Pr) : pruneN ps (ps.length + 1) (once (ps.map (·.1))) = [] ↔ roundB ps = false := by
  rw [roundB_acy]
  constructor
  · intro h
    rw [acy_iff]
    rintro ⟨p, hp, r⟩
    obtain ⟨C, h1, h2, h3⟩ := rch_row r
    have hC : ∀ x ∈ C, ∃ p ∈ ps, p.1 = x ∧ p.2 ∈ C := fun x hx => by
      rcases h3 x hx with rfl | h4
      · exact ⟨p, hp, rfl, h1⟩
      · exact h4
    have := pruneN_rnd hC (n := ps.length + 1) (S := once (ps.map (·.1))) (fun x hx => by
      obtain ⟨q, hq, h4, _⟩ := hC x hx
      rw [mem_once, ← h4]
      exact List.mem_map_of_mem (f := (·.1)) hq) p.1 h2
    rw [h] at this
    cases this
  · intro h
    refine pruneN_acy h ?_
    have := len_once (ps.map (·.1))
    simp only [List.length_map] at this
    omega
end L2.HW
namespace L2.HW
open PySem PySem.Spec PyProof.Rows
def wholeB : PyData → Bool
  | .int i => decide (0 ≤ i)
  | _ => false
def fromB (l : Int) : PyData → Bool
  | .int i => decide (l ≤ i)
  | _ => false
def placeB (m : Int) : PyData → Bool
  | .int i => decide (0 ≤ i) && decide (i < m)
  | _ => false
@[simp] theorem F_is_whole_eq (x : PyData) (L : LH) : F_is_whole [.d x] L = .ok (.d (.bool (wholeB x))) L := by
  cases x <;> simp [F_is_whole, b_is_whole, mkFn, Va.kind, isKind, opGe, wholeB]
@[simp] theorem F_l_whole_eq (x : PyData) (L : LH) : F_l_whole [.d x] L = .ok (.d (.bool (match x with | .int _ => true | _ => false))) L := by
  cases x <;> simp [F_l_whole, b_l_whole, mkFn, Va.kind, isKind]
@[simp] theorem F_is_more_eq (x : PyData) (L : LH) : F_is_more [.d x] L = .ok (.d (.bool (fromB 1 x))) L := by
  cases x with
  | int i =>
    simp [F_is_more, b_is_more, mkFn, wholeB, opGt, fromB]
    by_cases h : 0 ≤ i
    · simp [h]; omega
    · simp [h]; omega
  | _ => simp [F_is_more, b_is_more, mkFn, wholeB, fromB]
@[simp] theorem F_is_place_eq (m : Int) (x : PyData) (L : LH) : F_is_place [.d (.int m), .d x] L = .ok (.d (.bool (placeB m x))) L := by
  cases x with
  | int i =>
    simp [F_is_place, b_is_place, mkFn, wholeB, placeB]
    by_cases h : 0 ≤ i <;> simp [h]
  | _ => simp [F_is_place, b_is_place, mkFn, wholeB, placeB]
@[simp] theorem F_l_is_from_eq (l : Int) (x : PyData) (L : LH) : F_l_is_from [.d x, .d (.int l)] L = .ok (.d (.bool (fromB l x))) L := by
  cases x <;> simp [F_l_is_from, b_l_is_from, mkFn, fromB, opGe]
@[simp] theorem F_l_is_place_eq (m : Int) (x : PyData) (L : LH) : F_l_is_place [.d (.int m), .d x] L = .ok (.d (.bool (placeB m x))) L := by
  cases x with
  | int i =>
    simp [F_l_is_place, b_l_is_place, mkFn, fromB, placeB]
    by_cases h : 0 ≤ i <;> simp [h]
  | _ => simp [F_l_is_place, b_l_is_place, mkFn, fromB, placeB]
def roadB (m e : Int) : PyData → Bool
  | .tuple [.int u, .int v, .int l, .int w] => decide (0 ≤ u) && decide (u < m) && (decide (0 ≤ v) && decide (v < m)) && !decide (u = v) && !decide (u = e) && decide (1 ≤ l) && decide (1 ≤ w)
  | _ => false
theorem placeB_int {m : Int} {x : PyData} (h : placeB m x = true) : ∃ i, x = .int i := by
  cases x <;> simp [placeB] at h ⊢
theorem fromB_int {m : Int} {x : PyData} (h : fromB m x = true) : ∃ i, x = .int i := by
  cases x <;> simp [fromB] at h ⊢
theorem shaped_int (i : Int) : SeqAt.shaped (.int i) = true := by simp [SeqAt.shaped, PyData.canLay0, PyData.depth]
theorem four_some {xs : List PyData} (h : xs.length = 4) : ∃ a b c d, xs = [a, b, c, d] := by
  match xs, h with
  | [a, b, c, d], _ => exact ⟨a, b, c, d, rfl⟩
theorem roadB_tup {m e : Int} {xs : List PyData} (h : xs.length ≠ 4) : roadB m e (.tuple xs) = false := by
  unfold roadB
  split
  · rename_i h2; cases h2; simp at h
  · rfl
theorem roadB_4 {m e : Int} (u v l w : PyData) : roadB m e (.tuple [u, v, l, w]) = (placeB m u && placeB m v && !PyData.eqv u v && !PyData.eqv u (.int e) && fromB 1 l && fromB 1 w) := by
  cases u <;> first | rfl | skip
  cases v <;> first | simp [roadB, placeB]
  cases l <;> first | simp [roadB, fromB]
  cases w <;> first | simp [roadB, fromB]
  rename_i u v l w
  simp [roadB, placeB, fromB, eqv_int]
@[simp] theorem F_is_road_eq (m e : Int) (x : PyData) (L : LH) : F_is_road [.d (.int m), .d (.int e), .d x] L = .ok (.d (.bool (roadB m e x))) L := by
  cases x with
  | tuple xs =>
    by_cases h : xs.length = 4
    · obtain ⟨u, v, l, w, rfl⟩ := four_some h
      rw [roadB_4]
      simp [F_is_road, b_is_road, mkFn, Va.kind, isKind, shaped_int, eqv_int]
      by_cases h1 : placeB m u
      · obtain ⟨u, rfl⟩ := placeB_int h1
        by_cases h2 : placeB m v
        · obtain ⟨v, rfl⟩ := placeB_int h2
          by_cases h3 : u = v <;> by_cases h4 : u = e <;> by_cases h5 : fromB 1 l <;> simp [h1, h2, shaped_int, eqv_int, h3, h4, h5]
          all_goals (try subst h3) <;> simp_all
        · simp [h1, h2]
      · simp [h1]
    · rw [roadB_tup h]
      have h' : ¬ ((xs.length : Int) = 4) := by omega
      simp [F_is_road, b_is_road, mkFn, Va.kind, isKind, shaped_int, eqv_int, h, h']
  | _ => simp [F_is_road, b_is_road, mkFn, Va.kind, isKind, roadB]
@[simp] theorem F_l_is_road_eq (m e : Int) (x : PyData) (L : LH) : F_l_is_road [.d (.int m), .d (.int e), .d x] L = .ok (.d (.bool (roadB m e x))) L := by
  cases x with
  | tuple xs =>
    by_cases h : xs.length = 4
    · obtain ⟨u, v, l, w, rfl⟩ := four_some h
      rw [roadB_4]
      simp [F_l_is_road, b_l_is_road, mkFn, Va.kind, isKind, shaped_int, eqv_int]
      by_cases h1 : placeB m u
      · obtain ⟨u, rfl⟩ := placeB_int h1
        by_cases h2 : placeB m v
        · obtain ⟨v, rfl⟩ := placeB_int h2
          by_cases h3 : u = v <;> by_cases h4 : u = e <;> by_cases h5 : fromB 1 l <;> simp [h1, h2, shaped_int, eqv_int, h3, h4, h5]
          all_goals (try subst h3) <;> simp_all
        · simp [h1, h2]
      · simp [h1]
    · rw [roadB_tup h]
      have h' : ¬ ((xs.length : Int) = 4) := by omega
      simp [F_l_is_road, b_l_is_road, mkFn, Va.kind, isKind, shaped_int, eqv_int, h, h']
  | _ => simp [F_l_is_road, b_l_is_road, mkFn, Va.kind, isKind, roadB]
def webB : PyData → Bool
  | .tuple [.int m, b, e, .tuple rs] => decide (2 ≤ m) && placeB m b && placeB m e && !PyData.eqv b e && match e with
    | .int e => rs.all (roadB m e)
    | _ => false
  | _ => false
theorem cAll_map (rs : List PyData) (p : PyData → Bool) (L : LH) : cAll [.d (.list (rs.map fun x => .bool (p x)))] L = .ok (.d (.bool (rs.all p))) L := by
  have e : boolsOf ((rs.map fun x => PyData.bool (p x)).map Va.d) = some (rs.map p) := by
    induction rs with
    | nil => rfl
    | cons a r ih => simp only [List.map_cons, boolsOf, ih]; rfl
  have e2 : Va.items L (.d (.list (rs.map fun x => .bool (p x)))) = some ((rs.map fun x => PyData.bool (p x)).map Va.d) := rfl
  simp only [cAll, one, e2, e]
  congr 3
  rw [List.all_map]
  rfl
end L2.HW
namespace L2.HW
open PySem PySem.Spec PyProof.Rows
abbrev dP (p : Pr) : PyData := .tuple [.int p.1, .int p.2]
abbrev vP (p : Pr) : Va := .d (dP p)
abbrev vI (i : Int) : Va := .d (.int i)
abbrev tt : Va := .d (.bool true)
theorem app_get {L : LH} {o : Option Ob} : (L ++ [o])[L.length]? = some o := by simp
theorem reach_body {L : LH} {ks : List Int} (p : Pr) (w1 w2 : Option Va) (s6 s3 : Option Va) (w pl : Va) (hz : ks.length < sizeLine) :
    b_reached_1 [some w, some pl, some (.loc L.length), s3, some (vI p.1), some (vI p.2), s6] (L ++ [some (.di (tts ks tt))]) = .nx [some w, some pl, some (.loc L.length), s3, some (vI p.1), some (vI p.2), s6] (L ++ [some (.di (tts (if p.1 ∈ ks then insK ks p.2 else ks) tt))]) := by
  have e := aput_tts tt p.2 ks
  by_cases h : p.1 ∈ ks
  · simp [b_reached_1, Va.dget, alook_tts, h, tts_length, hz, e]
  · simp [b_reached_1, Va.dget, alook_tts, h]
theorem reach_loop {L : LH} (w pl : Va) (s3 s4 s5 s6 : Option Va) (ps : List Pr) (ks : List Int) (hz : ks.length + ps.length < sizeLine) :
    ∃ s4' s5', forL (tTupT 2 (tgCons (tN 4) (tgCons (tN 5) tgNil))) b_reached_1 (ps.map vP) [some w, some pl, some (.loc L.length), s3, s4, s5, s6] (L ++ [some (.di (tts ks tt))]) = .nx [some w, some pl, some (.loc L.length), s3, s4', s5', s6] (L ++ [some (.di (tts (reach1 ps ks) tt))]) := by
  induction ps generalizing ks s4 s5 with
  | nil => exact ⟨s4, s5, rfl⟩
  | cons p r ih =>
    simp only [List.length_cons] at hz
    have hl : (if p.1 ∈ ks then insK ks p.2 else ks).length ≤ ks.length + 1 := by
      split
      · unfold insK; split <;> simp
      · omega
    obtain ⟨a, b, e⟩ := ih (some (vI p.1)) (some (vI p.2)) (if p.1 ∈ ks then insK ks p.2 else ks) (by omega)
    refine ⟨a, b, ?_⟩
    rw [List.map_cons]
    unfold forL
    have e2 := reach_body (L := L) p none none s6 s3 w pl (ks := ks) (by omega)
    simp only [u_tTupT, seq_tuple, List.map_cons, List.map_nil, List.length_cons, List.length_nil, if_true, u_tgCons, u_tgNil, u_tN, Res.bind_ok, List.set_cons_succ, List.set_cons_zero]
    rw [e2]
    exact e
theorem srcV_of {i : Nat} {env : En} {L : LH} {w : Va} {p : List Va × Option Nat} (h : env[i]? = some (some w)) (hs : srcOf w L = some p) : srcV (eVar i) env L = .ok p L := by
  simp [h, hs]
theorem reachN_succ {ps : List Pr} {n : Nat} {ks : List Int} (h : (reach1 ps ks).length ≠ ks.length) : reachN ps (n + 1) ks = reachN ps n (reach1 ps ks) := by
  rw [reachN, if_neg h]
theorem reachN_stay {ps : List Pr} : ∀ {n : Nat} {ks : List Int}, (reach1 ps ks).length = ks.length → reachN ps n ks = ks
  | 0, _, _ => rfl
  | n + 1, _, h => by rw [reachN, if_pos h]
theorem room_ins {ps : List Pr} {c : List Int} {x : Int} (h : x ∈ ps.map (·.2)) (hx : x ∉ c) : room ps (c ++ [x]) + 1 ≤ room ps c := by
  have := filter_len_lt (xs := once (ps.map (·.2))) (a := x) (p := fun z => decide (z ∉ c)) (q := fun z => decide (z ∉ c ++ [x])) (mem_once.mpr h) (by simpa using hx) (by simp) (fun z _ hz => by
    simp only [List.mem_append, List.mem_singleton, not_or, decide_eq_true_eq] at hz ⊢
    exact hz.1)
  exact this
theorem room_sum {ps : List Pr} : ∀ {qs : List Pr} {c : List Int}, (∀ q ∈ qs, q ∈ ps) → (reach1 qs c).length + room ps (reach1 qs c) ≤ c.length + room ps c
  | [], c, _ => Nat.le_refl _
  | q :: r, c, h => by
    unfold reach1
    rw [List.foldl_cons]
    refine Nat.le_trans (room_sum (qs := r) (ps := ps) fun q hq => h q (List.mem_cons_of_mem _ hq)) ?_
    split
    · unfold insK
      split
      · exact Nat.le_refl _
      · have := room_ins (ps := ps) (c := c) (x := q.2) (List.mem_map_of_mem (f := (·.2)) (h q List.mem_cons_self)) (by assumption)
        simp only [List.length_append, List.length_singleton]
        omega
    · exact Nat.le_refl _
theorem settle_tts {L : LH} {n0 k : Nat} : ∀ xs : List Int, mapO (fun p : Int × Va => match settle L n0 k p.2 with
        | some (.d x) => some (p.1, x)
        | _ => none) (tts xs tt) = some (xs.map fun k => (k, PyData.bool true))
  | [] => rfl
  | x :: r => by
    have ih := settle_tts (L := L) (n0 := n0) (k := k) r
    unfold tts at ih ⊢
    rw [List.map_cons]
    unfold mapO
    rw [ih]
    simp
theorem F_reached_eq {w : Va} {ps : List Pr} {ks : List Int} {L : LH} (hw : ∀ L', srcOf w (L ++ L') = some (ps.map vP, none)) (hz : ks.length + 2 * ps.length < sizeLine) :
    F_reached [w, .d (.list (ks.map .int))] L = .ok (.dct ((reach ps (once ks)).map fun k => (k, PyData.bool true))) L := by
  have hz1 : ks.length ≤ sizeLine := by omega
  have wh := while_inv (t := tVal (eOp opNe (eVar 3) (eCallB cLen (aCons (eVar 2) aNil)))) (body := b_reached_2)
    (I := fun n env M => ∃ (c : List Int) (sz : Int) (a b : Option Va), env = [some w, some (.d (.list (ks.map .int))), some (.loc L.length), some (vI sz), a, b, none] ∧ M = L ++ [some (.di (tts c tt))] ∧ (sz = c.length → (reach1 ps c).length = c.length) ∧ (∃ k, reach ps (once ks) = reachN ps k c ∧ room ps c ≤ k) ∧ n = 2 * room ps c + (if sz = c.length then 0 else 1) ∧ c.length + room ps c ≤ ks.length + ps.length)
    (J := fun env M => ∃ (sz : Int) (a b : Option Va), env = [some w, some (.d (.list (ks.map .int))), some (.loc L.length), some (vI sz), a, b, none] ∧ M = L ++ [some (.di (tts (reach ps (once ks)) tt))])
    ?_ (n := 2 * room ps (once ks) + (if (0 : Int) = (once ks).length then 0 else 1)) (env := [some w, some (.d (.list (ks.map .int))), some (.loc L.length), some (vI 0), none, none, none]) (L := L ++ [some (.di (tts (once ks) tt))]) ?_
  · obtain ⟨env', L', e, sz, a, b, rfl, rfl⟩ := wh
    have dc : fDComp (srcV (eVar 1)) (tN 6) tTrue (eVar 6) (eC (.bool true)) [6] [some w, some (.d (.list (ks.map .int))), none, none, none, none, none] L = .ok (.di (tts (once ks) tt)) L := by
      have := fDComp_tts (s := srcV (eVar 1)) (g := tN 6) (t := tTrue) (fk := eVar 6) (fv := eC (.bool true)) (vs := [6]) (env := [some w, some (.d (.list (ks.map .int))), none, none, none, none, none]) (L := L) (w := tt) vI (fun _ => true) (fun i => i) ks (by simp [srcOf]) hz1 (fun x _ => ⟨_, rfl, rfl, fun _ => ⟨by simp [wipeE], rfl⟩⟩)
      rw [this, List.filter_eq_self.mpr (fun _ _ => rfl)]
      simp
    have st : settle (L ++ [some (.di (tts (reach ps (once ks)) tt))]) L.length 9 (.loc L.length) = some (.dct ((reach ps (once ks)).map fun k => (k, PyData.bool true))) := by
      rw [settle_loc, if_neg (by simp), app_get]
      have := settle_tts (L := L ++ [some (.di (tts (reach ps (once ks)) tt))]) (n0 := L.length) (k := 8) (reach ps (once ks))
      show (match mapO _ (tts (reach ps (once ks)) tt) with | some ks => some (Va.dct ks) | none => none) = _
      exact this ▸ rfl
    simp only [F_reached, b_reached, mkFn, List.length_cons, List.length_nil, if_true, List.map_cons, List.map_nil, List.replicate, List.cons_append, List.nil_append, u_sSeq, u_sSet, u_eNew, dc, Res.bind_ok, then_ok, List.set_cons_succ, List.set_cons_zero, u_eC, e, u_sRet]
    simp [outV, st]
  · rintro n env M ⟨c, sz, a, b, rfl, rfl, h2, ⟨k, h4, h5⟩, rfl, h6⟩
    have tst : tVal (eOp opNe (eVar 3) (eCallB cLen (aCons (eVar 2) aNil))) [some w, some (.d (.list (ks.map .int))), some (.loc L.length), some (vI sz), a, b, none] (L ++ [some (.di (tts c tt))]) = .ok (!decide (sz = (c.length : Int))) (L ++ [some (.di (tts c tt))]) := by
      simp [Va.seq, tts_length, eqv_int]
    rw [tst]
    by_cases hs : sz = (c.length : Int)
    · left
      rw [decide_eq_true hs]
      refine ⟨_, rfl, sz, a, b, rfl, ?_⟩
      rw [h4, reachN_stay (h2 hs)]
    · right
      rw [decide_eq_false hs]
      obtain ⟨a', b', el⟩ := reach_loop (L := L) w (.d (.list (ks.map .int))) (some (vI (c.length : Int))) a b none ps c (by omega)
      refine ⟨_, rfl, [some w, some (.d (.list (ks.map .int))), some (.loc L.length), some (vI (c.length : Int)), a', b', none], L ++ [some (.di (tts (reach1 ps c) tt))], .inl ?_, ?_⟩
      · have hw' := hw [some (.di (tts c tt))]
        have hs0 : srcV (eVar 0) [some w, some (.d (.list (ks.map .int))), some (.loc L.length), some (vI (c.length : Int)), a, b, none] (L ++ [some (.di (tts c tt))]) = .ok (ps.map vP, none) (L ++ [some (.di (tts c tt))]) := srcV_of (i := 0) (w := w) rfl hw'
        simp only [b_reached_2, u_sSeq, u_sSet, u_eCallB, u_aCons, u_eVar, u_aNil, List.getElem?_cons_zero, List.getElem?_cons_succ, Res.bind_ok, then_ok, u_cLen, app_get, Va.seq, tts_length, List.set_cons_succ, List.set_cons_zero, sFor, hs0, lockL_none, el, openOut_nx, openL_none]
      · have rs := room_sum (ps := ps) (qs := ps) (c := c) fun _ h => h
        by_cases hn : (reach1 ps c).length = c.length
        · have he := (reach1_eq hn).1
          refine ⟨_, ?_, reach1 ps c, (c.length : Int), a', b', rfl, rfl, fun _ => by rw [he, he], ⟨k, by rw [he]; exact h4, by rw [he]; exact h5⟩, rfl, by rw [he]; exact h6⟩
          rw [he, if_neg hs, if_pos rfl]
          omega
        · have hr := room_lt hn
          have hne : ¬ ((c.length : Int) = ((reach1 ps c).length : Int)) := by omega
          refine ⟨_, ?_, reach1 ps c, (c.length : Int), a', b', rfl, rfl, fun z => absurd z hne, ?_, rfl, by omega⟩
          · rw [if_neg hs, if_neg hne]; omega
          · cases k with
            | zero => omega
            | succ k => exact ⟨k, by rw [h4, reachN_succ hn], by omega⟩
  · refine ⟨once ks, 0, none, none, rfl, rfl, fun z => ?_, ⟨ps.length, rfl, room_le _ _⟩, rfl, ?_⟩
    · have : once ks = [] := List.eq_nil_of_length_eq_zero (by omega)
      rw [this]
      have : ∀ qs : List Pr, reach1 qs [] = [] := fun qs => by
        induction qs with
        | nil => rfl
        | cons q r ih => unfold reach1 at ih ⊢; rw [List.foldl_cons, if_neg (by simp)]; exact ih
      rw [this]
    · have := room_le ps (once ks)
      have := len_once ks
      omega
end L2.HW
namespace L2.HW
open PySem PySem.Spec PyProof.Rows
def pairB (m e : Int) : PyData → Bool
  | .tuple [.int u, .int v] => decide (0 ≤ u) && decide (u < m) && (decide (0 ≤ v) && decide (v < m)) && !decide (u = v) && !decide (u = e)
  | _ => false
def prOf : PyData → Pr
  | .tuple [.int u, .int v] => (u, v)
  | _ => (0, 0)
theorem pairB_pr {m e : Int} {x : PyData} (h : pairB m e x = true) : x = dP (prOf x) ∧ 0 ≤ (prOf x).1 ∧ (prOf x).1 < m ∧ 0 ≤ (prOf x).2 ∧ (prOf x).2 < m ∧ (prOf x).1 ≠ (prOf x).2 ∧ (prOf x).1 ≠ e := by
  unfold pairB at h
  split at h
  · rename_i u v
    simp only [Bool.and_eq_true, Bool.not_eq_true', decide_eq_true_eq, decide_eq_false_iff_not] at h
    exact ⟨rfl, h.1.1.1.1, h.1.1.1.2, h.1.1.2.1, h.1.1.2.2, h.1.2, h.2⟩
  · cases h
theorem pairs_pr {m e : Int} {rs : List PyData} (h : rs.all (pairB m e) = true) : rs = (rs.map prOf).map dP := by
  rw [List.map_map]
  have : ∀ x ∈ rs, (dP ∘ prOf) x = x := fun x hx => (pairB_pr (List.all_eq_true.mp h x hx)).1.symm
  exact ((List.map_congr_left this).trans (List.map_id' rs)).symm
theorem pairB_tup {m e : Int} {xs : List PyData} (h : xs.length ≠ 2) : pairB m e (.tuple xs) = false := by
  unfold pairB
  split
  · rename_i h2; cases h2; simp at h
  · rfl
theorem two_some {xs : List PyData} (h : xs.length = 2) : ∃ a b, xs = [a, b] := by
  match xs, h with
  | [a, b], _ => exact ⟨a, b, rfl⟩
theorem pairB_2 {m e : Int} (u v : PyData) : pairB m e (.tuple [u, v]) = (placeB m u && placeB m v && !PyData.eqv u v && !PyData.eqv u (.int e)) := by
  cases u <;> first | rfl | skip
  cases v <;> first | simp [pairB, placeB]
  rename_i u v
  simp [pairB, placeB, eqv_int]
@[simp] theorem F_is_pair_eq (m e : Int) (x : PyData) (L : LH) : F_is_pair [.d (.int m), .d (.int e), .d x] L = .ok (.d (.bool (pairB m e x))) L := by
  cases x with
  | tuple xs =>
    by_cases h : xs.length = 2
    · obtain ⟨u, v, rfl⟩ := two_some h
      rw [pairB_2]
      have hc : fComp (srcV (eVar 2)) (tN 3) tTrue (eCall F_is_place (aCons (eVar 0) (aCons (eVar 3) aNil))) [3] [some (.d (.int m)), some (.d (.int e)), some (.d (.tuple [u, v])), none] L = .ok (.lst [.d (.bool (placeB m u)), .d (.bool (placeB m v))]) L := by
        rw [fComp_map (xs := [u, v]) (h := fun x => .bool (placeB m x)) (by simp [srcOf]) (by simp [sizeLine_eq]) (fun x _ => ⟨_, rfl, by simp [wipeE]⟩)]
        rfl
      have ha := cAll_map [u, v] (placeB m) L
      simp only [List.map_cons, List.map_nil] at ha
      simp [F_is_pair, b_is_pair, mkFn, Va.kind, isKind, shaped_int, eqv_int, hc, ha]
      by_cases h1 : placeB m u
      · obtain ⟨u, rfl⟩ := placeB_int h1
        by_cases h2 : placeB m v
        · obtain ⟨v, rfl⟩ := placeB_int h2
          simp [h1, h2, shaped_int, eqv_int, Va.seq, atI, ixN]
          by_cases h3 : u = v <;> simp [h3]
        · simp [h1, h2]
      · simp [h1]
    · rw [pairB_tup h]
      have h' : ¬ ((xs.length : Int) = 2) := by omega
      simp [F_is_pair, b_is_pair, mkFn, Va.kind, isKind, shaped_int, eqv_int, h, h']
  | _ => simp [F_is_pair, b_is_pair, mkFn, Va.kind, isKind, pairB]
theorem once1 (v : Int) : once [v] = [v] := by simp [once, insK]
theorem F_has_round_eq {w : Va} {ps : List Pr} {L : LH} (hw : ∀ L', srcOf w L' = some (ps.map vP, none)) (hz : 1 + 2 * ps.length < sizeLine) :
    F_has_round [w] L = .ok (.d (.bool (roundB ps))) L := by
  have hc : fComp (srcV (eVar 0)) (tTupT 2 (tgCons (tN 1) (tgCons (tN 2) tgNil))) tTrue (eOp (opIn false) (eVar 1) (eCall F_reached (aCons (eVar 0) (aCons (eDat (fLst (aCons (eVar 2) aNil))) aNil)))) [1, 2] [some w, none, none] L = .ok (.lst ((ps.map fun p => PyData.bool (decide (p.1 ∈ reach ps [p.2]))).map Va.d)) L := by
    rw [fComp_tym (enc := vP) (h := fun p => .d (.bool (decide (p.1 ∈ reach ps [p.2])))) (xs := ps) (by simp [hw]) (by omega) (fun p _ => ⟨_, rfl, by
      have e := F_reached_eq (w := w) (ps := ps) (ks := [p.2]) (L := L) (fun L' => hw _) (by simpa using hz)
      simp only [List.map_cons, List.map_nil, once1] at e
      have al := alook_tts (κ := Int) tt p.1 (reach ps [p.2])
      have hd : (Va.dct ((reach ps [p.2]).map fun k => (k, PyData.bool true))).dget L (vI p.1) = some (if p.1 ∈ reach ps [p.2] then some tt else none) := by
        simp only [Va.dget]
        congr 1
        have : ∀ ks : List Int, (alook (ks.map fun k => (k, PyData.bool true)) p.1).map Va.d = if p.1 ∈ ks then some tt else none := fun ks => by
          induction ks with
          | nil => rfl
          | cons a r ih =>
            rw [List.map_cons, alook_cons]
            by_cases h : a = p.1
            · simp [h]
            · have h' : ¬ p.1 = a := fun z => h z.symm
              rw [if_neg h, ih]; simp [h']
        exact this _
      simp only [wipeE, List.set_cons_succ, List.set_cons_zero, u_eOp, u_eVar, List.getElem?_cons_succ, List.getElem?_cons_zero, Res.bind_ok, u_eCall, u_aCons, u_aNil, u_eDat, u_fLst, List.length_cons, List.length_nil]
      simp [sizeLine_eq, e, hd]
      by_cases h : p.1 ∈ reach ps [p.2] <;> simp [h]⟩)]
    simp
  have ha := cAll_map
  have e2 : ∀ (rs : List Pr) (p : Pr → Bool), cAny [.d (.list (rs.map fun x => PyData.bool (p x)))] L = .ok (.d (.bool (rs.any p))) L := fun rs p => by
    have e : boolsOf ((rs.map fun x => PyData.bool (p x)).map Va.d) = some (rs.map p) := by
      induction rs with
      | nil => rfl
      | cons a r ih => simp only [List.map_cons, boolsOf, ih]; rfl
    have e2 : Va.items L (.d (.list (rs.map fun x => .bool (p x)))) = some ((rs.map fun x => PyData.bool (p x)).map Va.d) := rfl
    simp only [cAny, one, e2, e]
    congr 3
    rw [List.any_map]
    rfl
  simp only [F_has_round, b_has_round, mkFn, List.length_cons, List.length_nil, if_true, List.map_cons, List.map_nil, List.replicate, List.cons_append, List.nil_append, u_sRet, u_eCallB, u_aCons, u_aNil, u_eDat, hc, Res.bind_ok, va_lst, e2, then_ok]
  simp [roundB]
def shapeB : PyData → Bool
  | .tuple [.int m, b, e, .tuple rs] => decide (2 ≤ m) && placeB m b && placeB m e && !PyData.eqv b e && match e with
    | .int e => rs.all (pairB m e) && !roundB (rs.map prOf)
    | _ => false
  | _ => false
theorem shapeB_tup {xs : List PyData} (h : xs.length ≠ 4) : shapeB (.tuple xs) = false := by
  unfold shapeB
  split
  · rename_i h2; cases h2; simp at h
  · rfl
theorem shapeB_4 {m b e r : PyData} : shapeB (.tuple [m, b, e, r]) = (match m, e, r with | .int m, .int e, .tuple rs => decide (2 ≤ m) && placeB m b && placeB m (.int e) && !PyData.eqv b (.int e) && (rs.all (pairB m e) && !roundB (rs.map prOf)) | _, _, _ => false) := by
  cases m <;> try rfl
  cases r <;> try (cases e <;> rfl)
  cases e <;> simp [shapeB]
def fewS : PyData → Prop
  | .tuple [_, _, _, .tuple rs] => 2 + 2 * rs.length < sizeLine
  | _ => True
theorem F_is_right_shape_eq (x : PyData) (hx : fewS x) (L : LH) : F_is_right_shape [.d x] L = .ok (.d (.bool (shapeB x))) L := by
  cases x with
  | tuple xs =>
    by_cases h : xs.length = 4
    · obtain ⟨m, b, e, r, rfl⟩ := four_some h
      rw [shapeB_4]
      by_cases h0 : wholeB m
      · obtain ⟨m, rfl⟩ : ∃ i, m = .int i := by cases m <;> simp [wholeB] at h0 ⊢
        by_cases h1 : m < 2
        · have : ¬ 2 ≤ m := by omega
          simp [F_is_right_shape, b_is_right_shape, mkFn, Va.kind, isKind, shaped_int, eqv_int, h0, h1, atI, ixN]
          cases e <;> cases r <;> simp [this]
        · have h1' : 2 ≤ m := by omega
          simp [F_is_right_shape, b_is_right_shape, mkFn, Va.kind, isKind, shaped_int, eqv_int, h0, h1, atI, ixN]
          by_cases h2 : placeB m b
          · obtain ⟨b, rfl⟩ := placeB_int h2
            by_cases h3 : placeB m e
            · obtain ⟨e, rfl⟩ := placeB_int h3
              by_cases h4 : b = e
              · subst h4
                simp [h2, h3, shaped_int, eqv_int]
                cases r <;> simp
              · simp [h2, h3, h4, shaped_int, eqv_int, h1']
                cases r with
                | tuple rs =>
                  have hz : 2 + 2 * rs.length < sizeLine := hx
                  simp [Va.kind, isKind]
                  rw [fComp_map (xs := rs) (h := fun x => .bool (pairB m e x)) (by simp [srcOf]) (by omega) (fun x _ => ⟨_, rfl, by simp [wipeE]⟩)]
                  have h2' : 0 ≤ b ∧ b < m := by simpa [placeB] using h2
                  simp [cAll_map, h2, h3, h4, h1']
                  by_cases ha : ∀ x, x ∈ rs → pairB m e x = true
                  case neg =>
                    simp [ha]
                  case pos =>
                    have er := pairs_pr (List.all_eq_true.mpr ha)
                    have hr := F_has_round_eq (w := .d (.tuple rs)) (ps := rs.map prOf) (L := L) (fun L' => by
                      conv => lhs; rw [er]
                      simp [srcOf]) (by simp; omega)
                    simp only [hr, Res.bind_ok, if_pos ha, List.all_eq_true.mpr ha]
                    simp
                | _ => simp [Va.kind, isKind]
            · simp [h2, h3]
              cases e <;> cases r <;> simp_all
          · simp [h2]
            cases e <;> cases r <;> simp_all
      · simp [F_is_right_shape, b_is_right_shape, mkFn, Va.kind, isKind, shaped_int, eqv_int, h0, atI, ixN]
        cases m <;> cases e <;> cases r <;> simp [wholeB] at h0 ⊢
        all_goals omega
    · rw [shapeB_tup h]
      have h' : ¬ ((xs.length : Int) = 4) := by omega
      simp [F_is_right_shape, b_is_right_shape, mkFn, Va.kind, isKind, shaped_int, eqv_int, h, h']
  | _ => simp [F_is_right_shape, b_is_right_shape, mkFn, Va.kind, isKind, shapeB]
end L2.HW
namespace L2.HW
open PySem PySem.Spec PyProof.Rows
structure Ord (m : Nat) (os : List Int) : Prop where
  len : os.length = m
  nd : os.Nodup
  bd : ∀ x ∈ os, 0 ≤ x ∧ x < m
theorem ord_ins {m : Nat} {os : List Int} (h : Ord m os) (i : Nat) : Ord (m + 1) (os.take i ++ [(m : Int)] ++ os.drop i) := by
  have p : (os.take i ++ [(m : Int)] ++ os.drop i).Perm ((m : Int) :: os) := by
    have := List.take_append_drop i os
    refine List.Perm.trans (List.Perm.append_right _ List.perm_append_comm) ?_
    rw [List.append_assoc, this]
    exact List.Perm.refl _
  refine ⟨by rw [p.length_eq]; simp [h.len], p.nodup_iff.mpr (List.nodup_cons.mpr ⟨fun z => by have := (h.bd _ z).2; omega, h.nd⟩), fun x hx => ?_⟩
  rcases List.mem_cons.mp (p.mem_iff.mp hx) with rfl | hx
  · omega
  · have := h.bd x hx; omega
theorem order_ex {L : LH} {n : Nat} {p : Int} {m : Nat} (hn : n < L.length) (hm : m ≤ 10000) :
    ∃ (os : List Int) (p' : Int), F_l_order_of [.loc n, .d (.int (m : Int))] (L.set n (P1 p)) = .ok (.d (.list (os.map .int))) (L.set n (P1 p')) ∧ Ord m os := by
  have loop : ∀ (k j : Nat) (os : List Int) (q : Int) (a : Option Va), Ord j os → j + k = m → ∃ (os' : List Int) (q' : Int) (a' : Option Va), Ord m os' ∧
      forL (tN 3) b_l_order_of_1 ((List.range' j k).map fun i => Va.d (.int (0 + (i : Nat)))) [some (.loc n), some (.d (.int (m : Int))), some (.loc L.length), a] ((L ++ [some (Ob.lst ((os.map PyData.int).map Va.d))]).set n (P1 q)) =
        .nx [some (.loc n), some (.d (.int (m : Int))), some (.loc L.length), a'] ((L ++ [some (Ob.lst ((os'.map PyData.int).map Va.d))]).set n (P1 q')) := by
    intro k
    induction k with
    | zero => intro j os q a h e; exact ⟨os, q, a, by rw [← e]; exact h, rfl⟩
    | succ k ih =>
      intro j os q a h e
      obtain ⟨u, q1, u0, u1, eu⟩ := take_cell (L := L) (n := n) (p := q) (s := (j : Int) + 1) (o := some (Ob.lst ((os.map PyData.int).map Va.d))) hn (by omega) (log_small (by omega) (by omega))
      obtain ⟨os', q', a', h', e'⟩ := ih (j + 1) (os.take u.toNat ++ [(j : Int)] ++ os.drop u.toNat) q1 (some (.d (.int (0 + (j : Nat))))) (ord_ins h _) (by omega)
      refine ⟨os', q', a', h', ?_⟩
      rw [List.range'_succ, List.map_cons]
      unfold forL
      have hl := h.len
      have hz : os.length < sizeLine ∧ 0 ≤ u ∧ u < 2 ^ 63 := by rw [sizeLine_eq]; exact ⟨by omega, u0, by omega⟩
      have gt := get_top (L := L) (p := q) (o := some (Ob.lst ((os.map PyData.int).map Va.d))) hn
      have gt1 := get_top (L := L) (p := q1) (o := some (Ob.lst ((os.map PyData.int).map Va.d))) hn
      have body : b_l_order_of_1 [some (.loc n), some (.d (.int (m : Int))), some (.loc L.length), some (.d (.int (0 + (j : Nat))))] ((L ++ [some (Ob.lst ((os.map PyData.int).map Va.d))]).set n (P1 q)) =
          .nx [some (.loc n), some (.d (.int (m : Int))), some (.loc L.length), some (.d (.int (0 + (j : Nat))))] ((L ++ [some (Ob.lst (((os.take u.toNat ++ [(j : Int)] ++ os.drop u.toNat).map PyData.int).map Va.d))]).set n (P1 q1)) := by
        simp only [b_l_order_of_1, u_sExpr, u_eMeth, u_eVar, List.getElem?_cons_zero, List.getElem?_cons_succ, Res.bind_ok, u_isLs, gt, if_true, u_aCons, u_eCall, u_eOp, u_eC, u_opAdd, Int.zero_add, u_aNil, eu, u_mInsert, gt1, List.length_map, if_pos hz, then_ok, set_top hn]
        congr 2
        simp [List.map_take, List.map_drop]
      simp only [u_tN, List.set_cons_succ, List.set_cons_zero]
      rw [body]
      exact e'
  obtain ⟨os, q, a, h, e⟩ := loop m 0 [] p none ⟨rfl, .nil, fun _ h => nomatch h⟩ (by omega)
  refine ⟨os, q, ?_, h⟩
  have st : settle ((L ++ [some (Ob.lst ((os.map PyData.int).map Va.d))]).set n (P1 q)) (L.set n (P1 p)).length 9 (.loc L.length) = some (.d (.list (os.map .int))) := by
    rw [settle_loc, if_neg (by simp), get_top hn]
    exact settleO_d _ _ _ _
  have hsrc : srcR1 (aCons (eVar 1) aNil) [some (.loc n), some (.d (.int (m : Int))), some (.loc L.length), none] ((L ++ [some (Ob.lst [])]).set n (P1 p)) = .ok (rngV 0 m, none) ((L ++ [some (Ob.lst [])]).set n (P1 p)) := srcR1_nat (by simp) (by rw [sizeLine_eq]; omega)
  have hr : rngV 0 m = (List.range' 0 m).map fun i => Va.d (.int (0 + (i : Nat))) := by simp [rngV, List.range_eq_range']
  rw [← hr] at e
  refine fn_out (L' := (L ++ [some (Ob.lst ((os.map PyData.int).map Va.d))]).set n (P1 q)) rfl ?_ st (outV_set _ hn)
  refine seq_nx (env1 := [some (.loc n), some (.d (.int (m : Int))), some (.loc L.length), none]) (L1 := (L ++ [some (Ob.lst [])]).set n (P1 p)) (by simp [set_app hn]) ?_
  refine seq_nx (for_nx hsrc e) ?_
  simp
structure GoodS (top cnt : Int) (m b e : Int) (ps : List Pr) : Prop where
  m2 : 2 ≤ m
  mt : m ≤ top
  b0 : 0 ≤ b
  b1 : b < m
  e0 : 0 ≤ e
  e1 : e < m
  be : b ≠ e
  rd : ∀ p ∈ ps, 0 ≤ p.1 ∧ p.1 < m ∧ 0 ≤ p.2 ∧ p.2 < m ∧ p.1 ≠ e
  len : (ps.length : Int) ≤ cnt
  acy : Acy ps
theorem Acy.ne {ps : List Pr} (h : Acy ps) : ∀ p ∈ ps, p.1 ≠ p.2 := fun p hp e => by
  obtain ⟨r, hr⟩ := h
  have := hr p hp
  rw [e] at this
  exact Int.lt_irrefl _ this
abbrev encS (m b e : Int) (ps : List Pr) : PyData := .tuple [.int m, .int b, .int e, .tuple (ps.map dP)]
theorem GoodS.shapeB {top cnt m b e : Int} {ps : List Pr} (h : GoodS top cnt m b e ps) : shapeB (encS m b e ps) = true := by
  rw [encS, shapeB_4]
  have hp : (ps.map dP).all (pairB m e) = true := by
    rw [List.all_eq_true]
    intro x hx
    obtain ⟨p, hp, rfl⟩ := List.mem_map.mp hx
    have := h.rd p hp
    have hn := h.acy.ne p hp
    simp [pairB, this, hn]
  have hr : (ps.map dP).map prOf = ps := by
    rw [List.map_map]
    exact List.map_id' ps
  simp only [hp, hr, roundB_acy.mpr h.acy]
  simp [placeB, eqv_int, h.m2, h.b0, h.b1, h.e0, h.e1, h.be]
def rank (os : List Int) (x : Int) : Int := os.idxOf x
theorem rank_at {os : List Int} (h : os.Nodup) {i : Nat} (hi : i < os.length) : rank os os[i] = i := by
  unfold rank
  rw [List.Nodup.idxOf_getElem h i hi]
theorem atI_int (os : List Int) (i : Nat) (hi : i < os.length) : atI ((os.map PyData.int).map Va.d) (i : Int) = some (.d (.int os[i])) := by
  simp [atI, ixN, hi, List.getElem?_eq_getElem hi]
theorem shape_ex {L : LH} {n : Nat} {p top bound : Int} (hn : n < L.length) (ht : 2 ≤ top) (ht2 : top ≤ 1000) (hb : 0 ≤ bound) (hb2 : bound ≤ 10000) :
    ∃ (m b e : Int) (ps : List Pr) (p' : Int), F_l_shape [.loc n, .d (.int top), .d (.int bound)] (L.set n (P1 p)) = .ok (.d (encS m b e ps)) (L.set n (P1 p')) ∧ GoodS top bound m b e ps := by
  obtain ⟨a, p1, a0, a1, ea⟩ := take_ex (p := p) hn (show 0 < top - 1 by omega) (log_small (by omega) (by omega))
  obtain ⟨M, hM⟩ : ∃ M : Nat, 2 + a = (M : Int) := ⟨(2 + a).toNat, by omega⟩
  obtain ⟨os, p2, eo, ord⟩ := order_ex (L := L) (p := p1) (m := M) hn (by omega)
  have hlen := ord.len
  have loop : ∀ (ws : List Va) (ps : List Pr) (q : Int) (s6 s7 s8 : Option Va), (ps.length : Int) + ws.length ≤ bound → (∀ p ∈ ps, ∃ i j : Nat, ∃ (hi : i < os.length) (hj : j < os.length), i < j ∧ p = (os[i], os[j])) →
      ∃ (ps' : List Pr) (q' : Int) (t6 t7 t8 : Option Va), forL (tN 6) b_l_shape_1 ws [some (.loc n), some (.d (.int top)), some (.d (.int bound)), some (.d (.int M)), some (.d (.list (os.map .int))), some (.loc L.length), s6, s7, s8, none] ((L ++ [some (Ob.lst ((ps.map dP).map Va.d))]).set n (P1 q)) =
        .nx [some (.loc n), some (.d (.int top)), some (.d (.int bound)), some (.d (.int M)), some (.d (.list (os.map .int))), some (.loc L.length), t6, t7, t8, none] ((L ++ [some (Ob.lst ((ps'.map dP).map Va.d))]).set n (P1 q')) ∧
        (ps'.length : Int) ≤ bound ∧ (∀ p ∈ ps', ∃ i j : Nat, ∃ (hi : i < os.length) (hj : j < os.length), i < j ∧ p = (os[i], os[j])) := by
    intro ws
    induction ws with
    | nil => intro ps q s6 s7 s8 h1 h2; exact ⟨ps, q, s6, s7, s8, rfl, by simpa using h1, h2⟩
    | cons w ws ih =>
      intro ps q s6 s7 s8 h1 h2
      simp only [List.length_cons] at h1
      obtain ⟨i, q1, i0, i1, ei⟩ := take_cell (L := L) (n := n) (p := q) (s := (M : Int) - 1) (o := some (Ob.lst ((ps.map dP).map Va.d))) hn (by omega) (log_small (by omega) (by omega))
      obtain ⟨j, q2, j0, j1, ej⟩ := take_cell (L := L) (n := n) (p := q1) (s := (M : Int) - 1 - i) (o := some (Ob.lst ((ps.map dP).map Va.d))) hn (by omega) (log_small (by omega) (by omega))
      obtain ⟨I, rfl⟩ : ∃ I : Nat, i = (I : Int) := ⟨i.toNat, by omega⟩
      obtain ⟨J, hJ⟩ : ∃ J : Nat, (I : Int) + 1 + j = (J : Int) := ⟨((I : Int) + 1 + j).toNat, by omega⟩
      have hI : I < os.length := by omega
      have hJl : J < os.length := by omega
      obtain ⟨ps', q', t6, t7, t8, e', h3, h4⟩ := ih (ps ++ [(os[I], os[J])]) q2 (some w) (some (.d (.int I))) (some (.d (.int J))) (by simp; omega) (fun p hp => by
        rcases List.mem_append.mp hp with hp | hp
        · exact h2 p hp
        · exact ⟨I, J, hI, hJl, by omega, by simpa using hp⟩)
      refine ⟨ps', q', t6, t7, t8, ?_, h3, h4⟩
      unfold forL
      have a1 := atI_int os I hI
      have a2 := atI_int os J hJl
      have hz : ps.length < sizeLine := by rw [sizeLine_eq]; omega
      have body : b_l_shape_1 [some (.loc n), some (.d (.int top)), some (.d (.int bound)), some (.d (.int M)), some (.d (.list (os.map .int))), some (.loc L.length), some w, s7, s8, none] ((L ++ [some (Ob.lst ((ps.map dP).map Va.d))]).set n (P1 q)) =
          .nx [some (.loc n), some (.d (.int top)), some (.d (.int bound)), some (.d (.int M)), some (.d (.list (os.map .int))), some (.loc L.length), some w, some (.d (.int I)), some (.d (.int J)), none] ((L ++ [some (Ob.lst (((ps ++ [(os[I], os[J])]).map dP).map Va.d))]).set n (P1 q2)) := by
        refine seq_nx (env1 := [some (.loc n), some (.d (.int top)), some (.d (.int bound)), some (.d (.int M)), some (.d (.list (os.map .int))), some (.loc L.length), some w, some (.d (.int I)), s8, none]) (L1 := (L ++ [some (Ob.lst ((ps.map dP).map Va.d))]).set n (P1 q1)) (by simp [-List.map_map, ei]) ?_
        refine seq_nx (env1 := [some (.loc n), some (.d (.int top)), some (.d (.int bound)), some (.d (.int M)), some (.d (.list (os.map .int))), some (.loc L.length), some w, some (.d (.int I)), some (.d (.int J)), none]) (L1 := (L ++ [some (Ob.lst ((ps.map dP).map Va.d))]).set n (P1 q2)) (by simp [-List.map_map, ej, hJ]) ?_
        have g2 := get_top (L := L) (p := q2) (o := some (Ob.lst ((ps.map dP).map Va.d))) hn
        have hz' : ps.length < 16777216 := by rw [sizeLine_eq] at hz; exact hz
        have st := set_top (L := L) (p := q2) (o := some (Ob.lst ((ps.map dP).map Va.d))) (o' := some (Ob.lst ((ps.map dP).map Va.d ++ [vP (os[I], os[J])]))) hn
        simp [-List.map_map, a1, a2, g2, get_top' hn, hz', sizeLine_eq, set_top hn]
      simp only [u_tN, List.set_cons_succ, List.set_cons_zero]
      rw [body]
      exact e'
  obtain ⟨c, p3, c0, c1, ec⟩ := take_cell (L := L) (n := n) (p := p2) (s := bound + 1) (o := some (Ob.lst [])) hn (by omega) (log_small (by omega) (by omega))
  obtain ⟨ps, q, t6, t7, t8, el, hl, hp⟩ := loop (rngV 0 c.toNat) [] p3 none none none (by simp [rngV]; omega) (fun _ h => nomatch h)
  obtain ⟨bi, p4, b0, b1, eb⟩ := take_cell (L := L) (n := n) (p := q) (s := (M : Int) - 1) (o := some (Ob.lst ((ps.map dP).map Va.d))) hn (by omega) (log_small (by omega) (by omega))
  obtain ⟨ch, p5, ch0, ch1, ech⟩ := take_cell (L := L) (n := n) (p := p4) (s := 4) (o := some (Ob.lst ((ps.map dP).map Va.d))) hn (by omega)
  obtain ⟨B, hB, hBl⟩ : ∃ B : Nat, atI [Va.d (.int 0), Va.d (.int 0), Va.d (.int 0), Va.d (.int bi)] ch = some (.d (.int B)) ∧ B + 1 < M := by
    have h : ch = 0 ∨ ch = 1 ∨ ch = 2 ∨ ch = 3 := by omega
    rcases h with rfl | rfl | rfl | rfl
    · exact ⟨0, rfl, by omega⟩
    · exact ⟨0, rfl, by omega⟩
    · exact ⟨0, rfl, by omega⟩
    · exact ⟨bi.toNat, by rw [Int.toNat_of_nonneg b0]; rfl, by omega⟩
  have hBl' : B < os.length := by omega
  have hEl : M - 1 < os.length := by omega
  refine ⟨M, os[B], os[M - 1], ps, p5, ?_, ⟨by omega, by omega, (ord.bd _ (List.getElem_mem hBl')).1, (ord.bd _ (List.getElem_mem hBl')).2, (ord.bd _ (List.getElem_mem hEl)).1, (ord.bd _ (List.getElem_mem hEl)).2, fun e => ?_, fun p h => ?_, hl, ?_⟩⟩
  · have rg : -4611686018427387904 ≤ c ∧ c < 4611686018427387904 := by omega
    have a1 := atI_int os B hBl'
    have a2 : atI ((os.map PyData.int).map Va.d) (-1) = some (.d (.int os[M - 1])) := by
      have : ixN ((os.map PyData.int).map Va.d).length (-1) = some (M - 1) := by
        simp only [List.length_map, hlen]
        unfold ixN
        have n2 : -(M : Int) ≤ -1 := by omega
        have n3 : (-1 + (M : Int)).toNat = M - 1 := by omega
        simp [n2, n3]
      unfold atI
      rw [this]
      simp [List.getElem?_eq_getElem hEl]
    have g5 := get_top (L := L) (p := p5) (o := some (Ob.lst ((ps.map dP).map Va.d))) hn
    refine fn_out (L' := (L ++ [some (Ob.lst ((ps.map dP).map Va.d))]).set n (P1 p5)) (w := .d (encS M os[B] os[M - 1] ps)) rfl ?_ (settle_d _ _ _ _) (outV_set _ hn)
    refine seq_nx (env1 := [some (.loc n), some (.d (.int top)), some (.d (.int bound)), some (.d (.int M)), none, none, none, none, none, none]) (L1 := L.set n (P1 p1)) (by simp [ea, hM]) ?_
    refine seq_nx (env1 := [some (.loc n), some (.d (.int top)), some (.d (.int bound)), some (.d (.int M)), some (.d (.list (os.map .int))), none, none, none, none, none]) (L1 := L.set n (P1 p2)) (by simp [eo]) ?_
    refine seq_nx (env1 := [some (.loc n), some (.d (.int top)), some (.d (.int bound)), some (.d (.int M)), some (.d (.list (os.map .int))), some (.loc L.length), none, none, none, none]) (L1 := (L ++ [some (Ob.lst [])]).set n (P1 p2)) (by simp [set_app hn]) ?_
    refine seq_nx (env1 := [some (.loc n), some (.d (.int top)), some (.d (.int bound)), some (.d (.int M)), some (.d (.list (os.map .int))), some (.loc L.length), t6, t7, t8, none]) (L1 := (L ++ [some (Ob.lst ((ps.map dP).map Va.d))]).set n (P1 q)) ?_ ?_
    · have hs : srcR1 (aCons (eCall F_l_take (aCons (eVar 0) (aCons (eOp opAdd (eVar 2) (eC (.int 1))) aNil))) aNil) [some (.loc n), some (.d (.int top)), some (.d (.int bound)), some (.d (.int M)), some (.d (.list (os.map .int))), some (.loc L.length), none, none, none, none] ((L ++ [some (Ob.lst [])]).set n (P1 p2)) = .ok (rngV 0 c.toNat, none) ((L ++ [some (Ob.lst [])]).set n (P1 p3)) := srcR1_int (by simp [ec]) rg
      simp only [sFor, hs, then_ok, lockL_none]
      rw [show (L ++ [some (Ob.lst [])]) = (L ++ [some (Ob.lst ((([] : List Pr).map dP).map Va.d))]) from rfl, el]
      simp only [openOut_nx, openL_none]
    refine seq_nx (env1 := [some (.loc n), some (.d (.int top)), some (.d (.int bound)), some (.d (.int M)), some (.d (.list (os.map .int))), some (.loc L.length), t6, t7, t8, some (.d (.int B))]) (L1 := (L ++ [some (Ob.lst ((ps.map dP).map Va.d))]).set n (P1 p5)) ?_ ?_
    · simp [-List.map_map, eb, ech, hB, sizeLine_eq]
    · simp [-List.map_map, a1, a2, g5, get_top' hn, Va.items, sizeLine_eq]
  · have := (List.getElem_inj ord.nd).mp e
    omega
  · obtain ⟨i, j, hi, hj, hij, rfl⟩ := hp p h
    refine ⟨(ord.bd _ (List.getElem_mem hi)).1, (ord.bd _ (List.getElem_mem hi)).2, (ord.bd _ (List.getElem_mem hj)).1, (ord.bd _ (List.getElem_mem hj)).2, fun e => ?_⟩
    have := (List.getElem_inj ord.nd).mp e
    omega
  · refine ⟨rank os, fun p h => ?_⟩
    obtain ⟨i, j, hi, hj, hij, rfl⟩ := hp p h
    simp only [rank_at ord.nd hi, rank_at ord.nd hj]
    omega
end L2.HW
namespace L2.HW
open PySem PySem.Spec PyProof.Rows
theorem F_l_once_eq {w : Va} {ks : List Int} {L : LH} (hw : ∀ L', srcOf w L' = some (ks.map vI, none)) (hz : ks.length < sizeLine) : F_l_once [w] L = .ok (.d (.list ((once ks).map .int))) L := by
  have loop : ∀ (xs c : List Int) (a : Option Va), c.length + xs.length < sizeLine → ∃ a', forL (tN 2) b_l_once_1 (xs.map vI) [some w, some (.loc L.length), a] (L ++ [some (.di (tts c tt))]) = .nx [some w, some (.loc L.length), a'] (L ++ [some (.di (tts (xs.foldl insK c) tt))]) := by
    intro xs
    induction xs with
    | nil => intro c a _; exact ⟨a, rfl⟩
    | cons x r ih =>
      intro c a h
      simp only [List.length_cons] at h
      have hl : (insK c x).length ≤ c.length + 1 := by unfold insK; split <;> simp
      obtain ⟨a', e⟩ := ih (insK c x) (some (vI x)) (by omega)
      refine ⟨a', ?_⟩
      rw [List.map_cons]
      unfold forL
      have e1 : b_l_once_1 [some w, some (.loc L.length), some (vI x)] (L ++ [some (.di (tts c tt))]) = .nx [some w, some (.loc L.length), some (vI x)] (L ++ [some (.di (tts (insK c x) tt))]) := by
        have e := aput_tts tt x c
        have hc : c.length < sizeLine := by omega
        simp [b_l_once_1, tts_length, hc, e]
      simp only [u_tN, List.set_cons_succ, List.set_cons_zero]
      rw [e1]
      exact e
  obtain ⟨a', e⟩ := loop ks [] none (by simpa using hz)
  have hl : (once ks).length ≤ sizeLine := by have := len_once ks; omega
  have hc : fComp (srcK 1) (tN 2) tTrue (eVar 2) [2] [some w, some (.loc L.length), a'] (L ++ [some (.di (tts (once ks) tt))]) = .ok (.lst (((once ks).map PyData.int).map Va.d)) (L ++ [some (.di (tts (once ks) tt))]) := by
    have hk : srcK 1 [some w, some (.loc L.length), a'] (L ++ [some (.di (tts (once ks) tt))]) = .ok ((once ks).map vI, some L.length) (L ++ [some (.di (tts (once ks) tt))]) := by
      simp [srcK, keysOf, tts]
    unfold fComp
    rw [hk]
    simp only [Res.bind_ok, List.length_map, if_pos hl]
    have := compL_ty (g := tN 2) (t := tTrue) (f := eVar 2) (env := wipeE [some w, some (.loc L.length), a'] [2]) (L := lockL (some L.length) (L ++ [some (.di (tts (once ks) tt))])) vI (fun _ => true) vI (once ks) (fun x _ => ⟨_, rfl, rfl, fun _ => by simp [wipeE]⟩)
    rw [this, List.filter_eq_self.mpr (fun _ _ => rfl)]
    simp [openL, lockL]
  have hs : srcV (eVar 0) [some w, some (.loc L.length), none] (L ++ [some (.di (tts [] tt))]) = .ok (ks.map vI, none) (L ++ [some (.di (tts [] tt))]) := srcV_of (i := 0) (w := w) rfl (hw _)
  simp only [F_l_once, b_l_once, mkFn, List.length_cons, List.length_nil, if_true, List.map_cons, List.map_nil, List.replicate, List.cons_append, List.nil_append, u_sSeq, u_sSet, u_eNew, fD0, Res.bind_ok, then_ok, List.set_cons_succ, List.set_cons_zero, sFor]
  rw [show (Ob.di [] : Ob) = Ob.di (tts [] tt) from rfl, hs]
  simp only [then_ok, lockL_none]
  rw [e]
  simp only [openOut_nx, openL_none, u_sRet, u_eDat]
  rw [show ks.foldl insK [] = once ks from rfl, hc]
  simp
theorem l_pair_eq (m e : Int) (x y b rs : PyData) (o5 o6 o7 o8 : Option Va) (L : LH) : b_l_is_shape_1 [some (.d y), some (.d (.int m)), some (.d b), some (.d (.int e)), some (.d rs), some (.d x), o6, o7, o8] L =
    if pairB m e x then .nx [some (.d y), some (.d (.int m)), some (.d b), some (.d (.int e)), some (.d rs), some (.d x), o6, o7, o8] L else .rt (.d (.bool false)) L := by
  cases x with
  | tuple xs =>
    by_cases h : xs.length = 2
    · obtain ⟨u, v, rfl⟩ := two_some h
      rw [pairB_2]
      simp [b_l_is_shape_1, Va.kind, isKind, shaped_int, eqv_int, atI, ixN]
      by_cases h1 : placeB m u
      · obtain ⟨u, rfl⟩ := placeB_int h1
        by_cases h2 : placeB m v
        · obtain ⟨v, rfl⟩ := placeB_int h2
          simp [h1, h2, shaped_int, eqv_int]
          by_cases h3 : u = v
          · simp [h3]
          · by_cases h4 : u = e
            · simp [h3, h4]
            · simp [h3, h4]
        · simp [h1, h2]
      · simp [h1]
    · rw [pairB_tup h]
      have h' : ¬ ((xs.length : Int) = 2) := by omega
      simp [b_l_is_shape_1, Va.kind, isKind, shaped_int, eqv_int, h, h']
  | _ => simp [b_l_is_shape_1, Va.kind, isKind, pairB]

theorem eqv_nil_list (xs : List PyData) : PyData.eqv (.list xs) (.list []) = xs.isEmpty := by
  cases xs <;> simp [PyData.eqv, PyData.eqvAll]
theorem int_any (S : List Int) (v : Int) : ((S.map PyData.int).any fun z => PyData.eqv z (.int v)) = decide (v ∈ S) := by
  rw [List.any_map, Bool.eq_iff_iff]
  simp only [List.any_eq_true, Function.comp, eqv_int, decide_eq_true_eq]
  constructor
  · rintro ⟨x, h1, rfl⟩; exact h1
  · intro h; exact ⟨v, h, rfl⟩
theorem shaped_ints (S : List Int) : SeqAt.shaped (.list (S.map PyData.int)) = true := by
  simp only [SeqAt.shaped, Bool.and_eq_true, decide_eq_true_eq]
  constructor
  · simp only [PyData.canLay0]
    induction S with
    | nil => rfl
    | cons a r ih => simp [PyData.canLayAll0, PyData.canLay0, ih]
  · simp only [PyData.depth]
    have : PyData.depthAll (S.map PyData.int) ≤ 0 := depthAll_le.mpr fun x hx => by
      obtain ⟨i, _, rfl⟩ := List.mem_map.mp hx
      simp [PyData.depth]
    omega
theorem shaped_dPs (S : List Pr) : SeqAt.shaped (.list (S.map dP)) = true := by
  simp only [SeqAt.shaped, Bool.and_eq_true, decide_eq_true_eq]
  constructor
  · simp only [PyData.canLay0]
    induction S with
    | nil => rfl
    | cons a r ih => simp [PyData.canLayAll0, PyData.canLay0, ih]
  · simp only [PyData.depth]
    have : PyData.depthAll (S.map dP) ≤ 1 := depthAll_le.mpr fun x hx => by
      obtain ⟨i, _, rfl⟩ := List.mem_map.mp hx
      simp [PyData.depth, PyData.depthAll]
    omega
theorem l_prune_eq (ps : List Pr) (S : List Int) (a0 a1 a2 a3 a5 a7 a8 : Option Va) (L : LH) (hz : ps.length ≤ sizeLine) (hz2 : S.length ≤ sizeLine) :
    b_l_is_shape_2 [a0, a1, a2, a3, some (.d (.tuple (ps.map dP))), a5, some (.d (.list (S.map .int))), a7, a8] L = .nx [a0, a1, a2, a3, some (.d (.tuple (ps.map dP))), a5, some (.d (.list ((prune ps S).map .int))), a7, a8] L := by
  have inner : ∀ x : Int, fComp (srcV (eVar 4)) (tN 5) (tAndF (tVal (eOp opEq (eOp opIx (eVar 5) (eC (.int 0))) (eVar 8))) (tVal (eOp (opIn false) (eOp opIx (eVar 5) (eC (.int 1))) (eVar 6)))) (eVar 5) [5] [a0, a1, a2, a3, some (.d (.tuple (ps.map dP))), a5, some (.d (.list (S.map .int))), a7, some (vI x)] L =
      .ok (.lst (((ps.filter fun p => decide (p.1 = x) && decide (p.2 ∈ S)).map dP).map Va.d)) L := fun x => by
    rw [fComp_ty (enc := vP) (p := fun p => decide (p.1 = x) && decide (p.2 ∈ S)) (h := vP) (xs := ps) (by simp [srcOf]) hz (fun p _ => ⟨_, rfl, by
      have ia := int_any S p.2
      rw [List.any_map] at ia
      by_cases h : p.1 = x
      · simp [wipeE, Va.seq, atI, ixN, eqv_int, h, Va.dget, Va.data, shaped_int, shaped_ints, ia]
      · simp [wipeE, Va.seq, atI, ixN, eqv_int, h], fun _ => by simp [wipeE]⟩)]
    simp
  have outer : fComp (srcV (eVar 6)) (tN 8) (tVal (eOp opNe (eDat (fComp (srcV (eVar 4)) (tN 5) (tAndF (tVal (eOp opEq (eOp opIx (eVar 5) (eC (.int 0))) (eVar 8))) (tVal (eOp (opIn false) (eOp opIx (eVar 5) (eC (.int 1))) (eVar 6)))) (eVar 5) [5])) (eDat (fLst aNil)))) (eVar 8) [8] [a0, a1, a2, a3, some (.d (.tuple (ps.map dP))), a5, some (.d (.list (S.map .int))), a7, a8] L = .ok (.lst (((prune ps S).map PyData.int).map Va.d)) L := by
    rw [fComp_ty (enc := vI) (p := fun x => ps.any fun p => decide (p.1 = x) && decide (p.2 ∈ S)) (h := vI) (xs := S) (by simp [srcOf]) hz2 (fun x _ => ⟨_, rfl, by
      have hi := inner x
      have c1 : cmpOk (.list ((ps.filter fun p => decide (p.1 = x) && decide (p.2 ∈ S)).map dP)) (.list []) = true := cmpOk_of (shaped_dPs _) (by decide)
      simp only [wipeE, u_tVal, u_eOp, u_eDat, u_tN, List.set_cons_succ, List.set_cons_zero] at hi ⊢
      rw [hi]
      simp only [Res.bind_ok, va_lst, u_fLst, u_aNil, List.length_nil, Nat.zero_le, if_true, va_nil, u_opNe, data_d, c1, eqv_nil_list]
      congr 1
      rw [Bool.eq_iff_iff]
      simp [List.filter_eq_nil_iff, List.any_eq_true], fun _ => by simp [wipeE]⟩)]
    simp [prune]
  simp only [b_l_is_shape_2, u_sSet, u_eDat, outer, Res.bind_ok, va_lst, then_ok, List.set_cons_succ, List.set_cons_zero]
theorem F_l_is_shape_eq (x : PyData) (hx : fewS x) (L : LH) : F_l_is_shape [.d x] L = .ok (.d (.bool (shapeB x))) L := by
  cases x with
  | tuple xs =>
    by_cases h : xs.length = 4
    · obtain ⟨m, b, e, r, rfl⟩ := four_some h
      rw [shapeB_4]
      by_cases h0 : fromB 2 m
      · obtain ⟨m, rfl⟩ := fromB_int h0
        have h1' : 2 ≤ m := by simpa [fromB] using h0
        by_cases h2 : placeB m b
        · obtain ⟨b, rfl⟩ := placeB_int h2
          by_cases h3 : placeB m e
          · obtain ⟨e, rfl⟩ := placeB_int h3
            by_cases h4 : b = e
            · subst h4
              simp [F_l_is_shape, b_l_is_shape, mkFn, Va.kind, isKind, shaped_int, eqv_int, h0, h2, h3, atI, ixN]
              cases r <;> simp
            · cases r with
              | tuple rs =>
                have hz : 2 + 2 * rs.length < sizeLine := hx
                obtain ⟨env', L', hR, el⟩ := forL_all (g := tN 5) (body := b_l_is_shape_1) Va.d (fun env M => M = L ∧ ∃ a, env = [some (.d (.tuple [.int m, .int b, .int e, .tuple rs])), some (.d (.int m)), some (.d (.int b)), some (.d (.int e)), some (.d (.tuple rs)), a, none, none, none]) (pairB m e) (.d (.bool false)) rs
                  [some (.d (.tuple [.int m, .int b, .int e, .tuple rs])), some (.d (.int m)), some (.d (.int b)), some (.d (.int e)), some (.d (.tuple rs)), none, none, none, none] L ⟨rfl, none, rfl⟩ (by
                    rintro y _ env M ⟨rfl, a, rfl⟩
                    refine ⟨_, _, rfl, ?_⟩
                    have := l_pair_eq m e y (.tuple [.int m, .int b, .int e, .tuple rs]) (.int b) (.tuple rs) none none none none M
                    simp only [List.set_cons_succ, List.set_cons_zero]
                    rw [this]
                    split
                    · exact ⟨_, _, .inl rfl, rfl, some (.d y), rfl⟩
                    · exact ⟨[some (.d (.tuple [.int m, .int b, .int e, .tuple rs])), some (.d (.int m)), some (.d (.int b)), some (.d (.int e)), some (.d (.tuple rs)), none, none, none, none], M, rfl, rfl, none, rfl⟩)
                obtain ⟨rfl, a, rfl⟩ := hR
                by_cases ha : rs.all (pairB m e) = true
                · rw [if_pos ha] at el
                  have er := pairs_pr ha
                  have ho : fComp (srcV (eVar 4)) (tN 5) tTrue (eOp opIx (eVar 5) (eC (.int 0))) [5] [some (.d (.tuple [.int m, .int b, .int e, .tuple rs])), some (.d (.int m)), some (.d (.int b)), some (.d (.int e)), some (.d (.tuple rs)), a, none, none, none] L' = .ok (.lst ((((rs.map prOf).map (·.1)).map PyData.int).map Va.d)) L' := by
                    rw [fComp_tym (enc := Va.d) (h := fun x => vI (prOf x).1) (xs := rs) (by simp [srcOf]) (by omega) (fun y hy => ⟨_, rfl, by
                      have := (pairB_pr (List.all_eq_true.mp ha y hy)).1
                      generalize prOf y = q at this
                      subst this
                      simp [wipeE, Va.seq, atI, ixN]⟩)]
                    simp
                  have hon := F_l_once_eq (w := .d (.list (((rs.map prOf).map (·.1)).map PyData.int))) (ks := (rs.map prOf).map (·.1)) (L := L') (fun L' => by simp [srcOf]) (by simp; omega)
                  have loop : ∀ (xs : List Va) (S : List Int) (a7 : Option Va), S.length ≤ sizeLine → ∃ a7', forL (tN 7) b_l_is_shape_2 xs [some (.d (.tuple [.int m, .int b, .int e, .tuple rs])), some (.d (.int m)), some (.d (.int b)), some (.d (.int e)), some (.d (.tuple rs)), a, some (.d (.list (S.map .int))), a7, none] L' = .nx [some (.d (.tuple [.int m, .int b, .int e, .tuple rs])), some (.d (.int m)), some (.d (.int b)), some (.d (.int e)), some (.d (.tuple rs)), a, some (.d (.list ((pruneN (rs.map prOf) xs.length S).map .int))), a7', none] L' := by
                    intro xs
                    induction xs with
                    | nil => intro S a7 _; exact ⟨a7, rfl⟩
                    | cons y r ih =>
                      intro S a7 hS
                      obtain ⟨a7', e9⟩ := ih (prune (rs.map prOf) S) (some y) (by have := prune_len (rs.map prOf) S; omega)
                      refine ⟨a7', ?_⟩
                      unfold forL
                      have e1 := l_prune_eq (rs.map prOf) S (some (.d (.tuple [.int m, .int b, .int e, .tuple rs]))) (some (.d (.int m))) (some (.d (.int b))) (some (.d (.int e))) a (some y) none L' (by simp; omega) hS
                      rw [← er] at e1
                      simp only [u_tN, List.set_cons_succ, List.set_cons_zero]
                      rw [e1]
                      exact e9
                  obtain ⟨a7', e7⟩ := loop (rngV 0 (rs.length + 1)) (once ((rs.map prOf).map (·.1))) none (by have := len_once ((rs.map prOf).map (·.1)); simp only [List.length_map] at this; omega)
                  have pi := prune_iff (rs.map prOf)
                  have hr : (rngV 0 (rs.length + 1)).length = (rs.map prOf).length + 1 := by simp [rngV]
                  rw [hr] at e7
                  have hsrc : srcR1 (aCons (eOp opAdd (eCallB cLen (aCons (eVar 4) aNil)) (eC (.int 1))) aNil) [some (.d (.tuple [.int m, .int b, .int e, .tuple rs])), some (.d (.int m)), some (.d (.int b)), some (.d (.int e)), some (.d (.tuple rs)), a, some (.d (.list ((once ((rs.map prOf).map (·.1))).map .int))), none, none] L' = .ok (rngV 0 (rs.length + 1), none) L' := srcR1_nat (n := rs.length + 1) (by simp) (by omega)
                  have c1 : cmpOk (.list ((pruneN (rs.map prOf) ((rs.map prOf).length + 1) (once ((rs.map prOf).map (·.1)))).map .int)) (.list []) = true := cmpOk_of (shaped_ints _) (by decide)
                  have fin : PyData.eqv (.list ((pruneN (rs.map prOf) ((rs.map prOf).length + 1) (once ((rs.map prOf).map (·.1)))).map .int)) (.list []) = !roundB (rs.map prOf) := by
                    rw [eqv_nil_list, Bool.eq_iff_iff, Bool.not_eq_true', ← pi]
                    cases pruneN (rs.map prOf) ((rs.map prOf).length + 1) (once ((rs.map prOf).map (·.1))) <;> simp
                  have h2' : 0 ≤ b ∧ b < m := by simpa [placeB] using h2
                  generalize hP : pruneN (rs.map prOf) ((rs.map prOf).length + 1) (once ((rs.map prOf).map (·.1))) = P at e7 c1 fin
                  generalize hO : once ((rs.map prOf).map (·.1)) = O at hon e7 hsrc
                  refine fn_rt rfl (L' := L') ?_
                  refine seq_nx (env1 := [some (.d (.tuple [.int m, .int b, .int e, .tuple rs])), none, none, none, none, none, none, none, none]) (L1 := L') (by simp [Va.kind, isKind, shaped_int, eqv_int, atI, ixN, h0]) ?_
                  refine seq_nx (env1 := [some (.d (.tuple [.int m, .int b, .int e, .tuple rs])), some (.d (.int m)), some (.d (.int b)), some (.d (.int e)), some (.d (.tuple rs)), none, none, none, none]) (L1 := L') (by simp) ?_
                  refine seq_nx (env1 := [some (.d (.tuple [.int m, .int b, .int e, .tuple rs])), some (.d (.int m)), some (.d (.int b)), some (.d (.int e)), some (.d (.tuple rs)), none, none, none, none]) (L1 := L') (by simp [h2, h3, h4, shaped_int, eqv_int, Va.kind, isKind]) ?_
                  refine seq_nx (for_nx (ws := rs.map Va.d) (by simp [srcOf]) el) ?_
                  refine seq_nx (env1 := [some (.d (.tuple [.int m, .int b, .int e, .tuple rs])), some (.d (.int m)), some (.d (.int b)), some (.d (.int e)), some (.d (.tuple rs)), a, some (.d (.list (O.map .int))), none, none]) (L1 := L') (by simp only [u_sSet, u_eCall, u_aCons, u_aNil, u_eDat, ho, Res.bind_ok, va_lst, hon, then_ok, List.set_cons_succ, List.set_cons_zero]) ?_
                  refine seq_nx (for_nx hsrc e7) ?_
                  simp [c1, fin, h2, h3, h4, h1', ha, -List.all_eq_true, eqv_int]
                · rw [if_neg ha] at el
                  simp [F_l_is_shape, b_l_is_shape, mkFn, Va.kind, isKind, shaped_int, eqv_int, h0, h2, h3, h4, atI, ixN, sFor, srcOf, el]
                  exact fun _ z => absurd (List.all_eq_true.mpr z) ha
              | _ => simp [F_l_is_shape, b_l_is_shape, mkFn, Va.kind, isKind, shaped_int, eqv_int, h0, h2, h3, h4, atI, ixN]
          · simp [F_l_is_shape, b_l_is_shape, mkFn, Va.kind, isKind, shaped_int, eqv_int, h0, h2, h3, atI, ixN]
            cases e <;> cases r <;> simp_all
        · simp [F_l_is_shape, b_l_is_shape, mkFn, Va.kind, isKind, shaped_int, eqv_int, h0, h2, atI, ixN]
          cases e <;> cases r <;> simp_all
      · simp [F_l_is_shape, b_l_is_shape, mkFn, Va.kind, isKind, shaped_int, eqv_int, h0, atI, ixN]
        cases m <;> cases e <;> cases r <;> simp [fromB] at h0 ⊢
        all_goals omega
    · rw [shapeB_tup h]
      have h' : ¬ ((xs.length : Int) = 4) := by omega
      simp [F_l_is_shape, b_l_is_shape, mkFn, Va.kind, isKind, shaped_int, eqv_int, h, h']
  | _ => simp [F_l_is_shape, b_l_is_shape, mkFn, Va.kind, isKind, shapeB]
end L2.HW
namespace L2.HW
open PySem PySem.Spec PyProof.Rows
theorem eqv_nil (xs : List PyData) : PyData.eqv (.list xs) (.list []) = xs.isEmpty := by
  cases xs <;> simp [PyData.eqv, PyData.eqvAll]
end L2.HW
namespace L2.HW
open PySem PySem.Spec PyProof.Rows
def GoodRoad (m e : Int) (r : PyData) : Prop := ∃ u v l w : Int, r = .tuple [.int u, .int v, .int l, .int w] ∧ 0 ≤ u ∧ u < m ∧ u ≠ e ∧ 0 ≤ v ∧ v < m ∧ v ≠ u ∧ 1 ≤ l ∧ l ≤ 5 ∧ 1 ≤ w ∧ w ≤ 3
def GoodWeb (top : Int) (w : PyData) : Prop := ∃ (m b e : Int) (rs : List PyData), w = .tuple [.int m, .int b, .int e, .tuple rs] ∧ 2 ≤ m ∧ m ≤ top ∧ 0 ≤ b ∧ b < m ∧ 0 ≤ e ∧ e < m ∧ b ≠ e ∧ rs.length ≤ (2 * m + 1).toNat ∧ ∀ r ∈ rs, GoodRoad m e r
end L2.HW
namespace L2.HW
open PySem PySem.Spec PyProof.Rows
theorem GoodRoad.ok {m e : Int} {r : PyData} (h : GoodRoad m e r) (hm : m ≤ 1000) : fine r = true ∧ r.depth ≤ 1 ∧ r.bulk ≤ 4 ∧ roadB m e r = true := by
  obtain ⟨u, v, l, w, rfl, h⟩ := h
  have lg : ∀ i : Int, 0 ≤ i → i ≤ 1000 → i.natAbs.log2 < 1920 := fun i h0 h1 => by
    have : i.natAbs < 2 ^ 1920 := by
      have : i.natAbs ≤ 1000 := by omega
      exact Nat.lt_of_le_of_lt this (by decide +kernel)
    by_cases z : i.natAbs = 0
    · rw [z]; decide
    · exact (Nat.log2_lt z).mpr this
  have h1 := lg u (by omega) (by omega)
  have h2 := lg v (by omega) (by omega)
  have h3 := lg l (by omega) (by omega)
  have h4 := lg w (by omega) (by omega)
  refine ⟨by simp [fine, fineAll, h1, h2, h3, h4], by simp [PyData.depth, PyData.depthAll], by simp [PyData.bulk, PyData.bulkAll], ?_⟩
  have : ¬ u = v := by omega
  simp [roadB, this]
  omega
theorem GoodWeb.ok {t : Int} {w : PyData} (h : GoodWeb t w) (ht : t ≤ 1000) : Ok 3 (4 + 5 * (2 * t + 1).toNat) w ∧ webB w = true := by
  obtain ⟨m, b, e, rs, rfl, h0, h1, h2, h3, h4, h5, h6, h7, h8⟩ := h
  have lg : ∀ i : Int, 0 ≤ i → i ≤ 1000 → i.natAbs.log2 < 1920 := fun i h0 h1 => by
    have : i.natAbs < 2 ^ 1920 := by
      have : i.natAbs ≤ 1000 := by omega
      exact Nat.lt_of_le_of_lt this (by decide +kernel)
    by_cases z : i.natAbs = 0
    · rw [z]; decide
    · exact (Nat.log2_lt z).mpr this
  have a1 := lg m (by omega) (by omega)
  have a2 := lg b (by omega) (by omega)
  have a3 := lg e (by omega) (by omega)
  have f : fineAll rs = true := fineAll_iff.mpr fun r hr => ((h8 r hr).ok (by omega)).1
  have d : PyData.depthAll rs ≤ 1 := depthAll_le.mpr fun r hr => ((h8 r hr).ok (by omega)).2.1
  have bk : ∀ rs : List PyData, (∀ r ∈ rs, r.bulk ≤ 4) → PyData.bulkAll rs ≤ 5 * rs.length := by
    intro rs
    induction rs with
    | nil => intro _; simp [PyData.bulkAll]
    | cons r rs ih =>
      intro h
      have := h r List.mem_cons_self
      have := ih fun x hx => h x (List.mem_cons_of_mem _ hx)
      simp [PyData.bulkAll]
      omega
  have b1 := bk rs fun r hr => ((h8 r hr).ok (by omega)).2.2.1
  refine ⟨⟨by simp [fine, fineAll, a1, a2, a3, f], by simp [PyData.depth, PyData.depthAll]; omega, by simp [PyData.bulk, PyData.bulkAll]; omega⟩, ?_⟩
  have : rs.all (roadB m e) = true := List.all_eq_true.mpr fun r hr => ((h8 r hr).ok (by omega)).2.2.2
  simp [webB, placeB, eqv_int, this]
  omega
end L2.HW
namespace L2.HW
open PySem PySem.Spec PyProof.Rows
end L2.HW
namespace L2.HW
open PySem PySem.Spec PyProof.Rows
structure Ar where
  u : Int
  v : Int
  c : Int
  i : Nat
  cap : Int
deriving DecidableEq, Repr
def sumW (W : Wb) (h : Rd → Int → Int) (g : List Int) : Int := (List.zipWith h W.rs g).sum
end L2.HW
namespace L2.HW
open PySem PySem.Spec PyProof.Rows
def Pot (W : Wb) (g : List Int) (f : Int → Int) : Prop := ∀ i r, W.rs[i]? = some r → (g.getD i 0 < r.w → f r.v ≤ f r.u + r.l) ∧ (0 < g.getD i 0 → f r.u ≤ f r.v - r.l)
def Wth (W : Wb) (g : List Int) : Prop := g.length = W.rs.length ∧ ∀ i r, W.rs[i]? = some r → 0 ≤ g.getD i 0 ∧ g.getD i 0 ≤ r.w
end L2.HW
namespace L2.HW
open PySem PySem.Spec PyProof.Rows
end L2.HW
namespace L2.HW
open PySem PySem.Spec PyProof.Rows
structure St (W : Wb) (g : List Int) (val last : Int) (f : Int → Int) : Prop where
  wd : Wth W g
  fl : ∀ h : Int → Int, sumW W (fun r x => x * (h r.v - h r.u)) g = val * (h W.e - h W.b)
  pt : Pot W g f
  fb : f W.b = 0
  fe : f W.e = last
  nn : ∀ x, 0 ≤ f x
end L2.HW
namespace L2.HW
open PySem PySem.Spec PyProof.Rows
end L2.HW
namespace L2.HW
open PySem PySem.Spec PyProof.Rows
end L2.HW
namespace L2.HW
open PySem PySem.Spec PyProof.Rows
end L2.HW
namespace L2.HW
open PySem PySem.Spec PyProof.Rows
end L2.HW
namespace L2.HW
open PySem PySem.Spec PyProof.Rows
end L2.HW
namespace L2.HW
open PySem PySem.Spec PyProof.Rows
end L2.HW
namespace L2.HW
open PySem PySem.Spec PyProof.Rows
end L2.HW
namespace L2.HW
open PySem PySem.Spec PyProof.Rows
end L2.HW
namespace L2.HW
open PySem PySem.Spec PyProof.Rows
end L2.HW
namespace L2.HW
open PySem PySem.Spec PyProof.Rows
def wayB (rs : List Rd) (goal : Int) (sub : Int → List Int → List (List Nat)) (here : Int) (bar : List Int) (a : Rd × Nat) : List (List Nat) :=
  if a.1.u = here ∧ a.1.v = goal then [[a.2]] else if a.1.u = here ∧ a.1.v ∉ bar then (sub a.1.v (bar ++ [a.1.v])).map (a.2 :: ·) else []
def wayL (rs : List Rd) (goal : Int) : Nat → Int → List Int → List (List Nat)
  | 0, _, _ => []
  | k + 1, here, bar => rs.zipIdx.flatMap (wayB rs goal (wayL rs goal k) here bar)
end L2.HW
namespace L2.HW
open PySem PySem.Spec PyProof.Rows
def Ar.d (a : Ar) : PyData := .tuple [.int a.u, .int a.v, .int a.c, .int a.i, .int a.cap]
def UsV (L : LH) (u : Va) (g : List Int) : Prop := ∀ e : LH, (∀ i : Int, Va.dget (L ++ e) u (.d (.int i)) = none) ∧ Va.seq (L ++ e) u = some (g.map fun x => Va.d (.int x))
theorem UsV.app {L : LH} {u : Va} {g : List Int} (h : UsV L u g) (x : LH) : UsV (L ++ x) u g := fun e => by rw [List.append_assoc]; exact h _
end L2.HW
namespace L2.HW
open PySem PySem.Spec PyProof.Rows
namespace BF
variable {γ Arc : Type} {B : BF γ Arc}
end BF
structure Lb where
  x : Int
  k : Int
  a : Option Ar
deriving DecidableEq
end L2.HW
namespace L2.HW
open PySem PySem.Spec PyProof.Rows
def arO : Option Ar → PyData
  | none => .none
  | some a => a.d
def Lb.d (l : Lb) : PyData := .tuple [.int l.x, .int l.k, arO l.a]
end L2.HW
namespace L2.HW
open PySem PySem.Spec PyProof.Rows
end L2.HW
namespace L2.HW
open PySem PySem.Spec PyProof.Rows
def wsum (W : Wb) : Int := (W.rs.map Rd.w).sum
end L2.HW
namespace L2.HW
open PySem PySem.Spec PyProof.Rows
end L2.HW
namespace L2.HW
open PySem PySem.Spec PyProof.Rows
end L2.HW
namespace L2.HW
open PySem PySem.Spec PyProof.Rows
end L2.HW
namespace L2.HW
open PySem PySem.Spec PyProof.Rows
end L2.HW
namespace L2.HW
open PySem PySem.Spec PyProof.Rows
def LM (L : LH) (fr : List Int) (E : List PyData) (pre : List Hw) : LH := L ++ [some (frO fr), some (.lst (E.map Va.d)), some (.lst ((pre.map Hw.d).map Va.d))]
end L2.HW
namespace L2.HW
open PySem PySem.Spec PyProof.Rows
def insA (l : List Int) (x : Int) : List Int := l.take (l.filter fun y => decide (y < x)).length ++ [x] ++ l.drop (l.filter fun y => decide (y < x)).length
def ascA (ns : List Int) : List Int := ns.foldl insA []
end L2.HW
namespace L2.HW
open PySem PySem.Spec PyProof.Rows
def cf (C : List Int) (x : Int) : Int := C.getD x.toNat 0
end L2.HW
namespace L2.HW
open PySem PySem.Spec PyProof.Rows
end L2.HW
namespace L2.HW
open PySem PySem.Spec PyProof.Rows
end L2.HW
namespace L2.HW
open PySem PySem.Spec PyProof.Rows
end L2.HW
namespace L2.HW
open PySem PySem.Spec PyProof.Rows
end L2.HW
namespace L2.HW
open PySem PySem.Spec PyProof.Rows
end L2.HW
namespace L2.HW
open PySem PySem.Spec PyProof.Rows
end L2.HW
namespace L2.HW
open PySem PySem.Spec PyProof.Rows
end L2.HW
namespace L2.HW
open PySem PySem.Spec PyProof.Rows
mutual
theorem eqv_rfl : ∀ {x : PyData}, fine x = true → PyData.eqv x x = true
  | .none, _ => by simp [PyData.eqv]
  | .bool _, _ => by simp [PyData.eqv]
  | .int _, _ => by simp [PyData.eqv]
  | .str _, _ => by simp [PyData.eqv]
  | .list xs, h => by
    have h : fineAll xs = true := by simpa [fine] using h
    simp [PyData.eqv, eqvs_rfl h]
  | .tuple xs, h => by
    have h : fineAll xs = true := by simpa [fine] using h
    simp [PyData.eqv, eqvs_rfl h]
  | .dict _, h => by simp [fine] at h
theorem eqvs_rfl : ∀ {x : List PyData}, fineAll x = true → PyData.eqvAll x x = true
  | [], _ => by simp [PyData.eqvAll]
  | x :: xs, h => by
    have h : fine x = true ∧ fineAll xs = true := by simpa [fineAll] using h
    simp [PyData.eqvAll, eqv_rfl h.1, eqvs_rfl h.2]
end
end L2.HW
namespace L2.HW
open PySem PySem.Spec PyProof.Rows
end L2.HW
namespace L2.HW
open PySem PySem.Spec PyProof.Rows
end L2.HW
namespace L2.HW
open PySem PySem.Spec PyProof.Rows
end L2.HW
namespace L2.HW
open PySem PySem.Spec PyProof.Rows
end L2.HW
namespace L2.HW
open PySem PySem.Spec PyProof.Rows
end L2.HW
namespace L2.HW
open PySem PySem.Spec PyProof.Rows
end L2.HW
namespace L2.HW
open PySem PySem.Spec PyProof.Rows
end L2.HW
namespace L2.HW
open PySem PySem.Spec PyProof.Rows
abbrev Sp1 := Int × Option Int
def GoodA (acc : List Sp1) (b : Int) : Prop := (∀ s ∈ acc, 1 ≤ s.1 ∧ ∃ y, s.2 = some y ∧ s.1 ≤ y ∧ y < b) ∧ acc.Pairwise fun s u => ∃ y, s.2 = some y ∧ y + 2 ≤ u.1
def GoodE (acc : List Sp1) : Prop := (∀ s ∈ acc, 1 ≤ s.1 ∧ ∀ y, s.2 = some y → s.1 ≤ y) ∧ acc.Pairwise fun s u => ∃ y, s.2 = some y ∧ y + 2 ≤ u.1
theorem GoodA.e {acc : List Sp1} {b : Int} (g : GoodA acc b) : GoodE acc := ⟨fun s hs => ⟨(g.1 s hs).1, fun y hy => by
  obtain ⟨_, y', e, h, _⟩ := g.1 s hs
  rw [e] at hy; cases hy; exact h⟩, g.2⟩
end L2.HW
namespace L2.HW
open PySem PySem.Spec PyProof.Rows
end L2.HW
namespace L2.HW
open PySem PySem.Spec PyProof.Rows
end L2.HW
namespace L2.HW
open PySem PySem.Spec PyProof.Rows
end L2.HW
namespace L2.HW
open PySem PySem.Spec PyProof.Rows
def words12 : List Str := ["web", "moment", "number", "road", "cut", "shape", "tree", "notroad", "text", "unlike", "value", "error"]
def ten12 : List Str := ["NoWeb", "NoMoment", "NoNumber", "NoRoad", "NoCut", "NoShape", "NotTree", "NotRoad", "NoText", "Unlike", "ValueError", "HasteError"]
def chosenS (F : Str → Bool) : List Str := ((List.zip words12 (ten12.map F)).filter fun p => p.2).map fun p => p.1
def chosen (F : Str → Bool) : List PyData := (chosenS F).map PyData.str
theorem word_gen {w : Va} {F : Str → Bool} (L : LH) (h : ∀ y ∈ ten12, ∀ env : En, env[0]? = some (some w) → eIsE y (eVar 0) env L = .ok (.d (.bool (F y))) L) {W : Str}
    (hw : (chosen F = [] ∧ W = "") ∨ (chosen F = [.str W, .str "value", .str "error"] ∧ cmpOk (.list [.str W, .str "value", .str "error"]) (.list []) = true)) : F_l_word_of [w] L = .ok (.d (.str W)) L := by
  have hz := sizeLine_eq
  have z6 : 3 + 3 ≤ sizeLine := by omega
  have z9 : 6 + 3 ≤ sizeLine := by omega
  have z12 : 9 + 3 ≤ sizeLine := by omega
  have g1 := fun env he => h "NoWeb" (by decide) env he
  have g2 := fun env he => h "NoMoment" (by decide) env he
  have g3 := fun env he => h "NoNumber" (by decide) env he
  have g4 := fun env he => h "NoRoad" (by decide) env he
  have g5 := fun env he => h "NoCut" (by decide) env he
  have g6 := fun env he => h "NoShape" (by decide) env he
  have g7 := fun env he => h "NotTree" (by decide) env he
  have g8 := fun env he => h "NotRoad" (by decide) env he
  have g9 := fun env he => h "NoText" (by decide) env he
  have g10 := fun env he => h "Unlike" (by decide) env he
  have g11 := fun env he => h "ValueError" (by decide) env he
  have g12 := fun env he => h "HasteError" (by decide) env he
  obtain ⟨S, hS⟩ : ∃ S, S = chosen F := ⟨_, rfl⟩
  rw [← hS] at hw
  obtain ⟨ws, hws⟩ : ∃ ws : List PyData, ws = words12.map PyData.str := ⟨_, rfl⟩
  obtain ⟨fs, hfs⟩ : ∃ fs : List PyData, fs = (ten12.map F).map PyData.bool := ⟨_, rfl⟩
  have hfs' : fs = [.bool (F "NoWeb"), .bool (F "NoMoment"), .bool (F "NoNumber"), .bool (F "NoRoad"), .bool (F "NoCut"), .bool (F "NoShape"), .bool (F "NotTree"), .bool (F "NotRoad"), .bool (F "NoText"), .bool (F "Unlike"), .bool (F "ValueError"), .bool (F "HasteError")] := hfs
  have hws' : ws = [.str "web", .str "moment", .str "number", .str "road", .str "cut", .str "shape", .str "tree", .str "notroad", .str "text", .str "unlike", .str "value", .str "error"] := hws
  have cp := fComp_ty (s := srcZ (aCons (eVar 2) (aCons (eVar 1) aNil))) (g := tTupT 2 (tgCons (tN 4) (tgCons (tN 5) tgNil))) (t := tVal (eVar 5)) (f := eVar 4) (vs := [4, 5]) (env := [some w, some (.d (.list fs)), some (.d (.list ws)), none, none, none]) (L := L) (fun p : Str × Bool => Va.d (.tuple [.str p.1, .bool p.2])) (fun p => p.2) (fun p => Va.d (.str p.1)) (List.zip words12 (ten12.map F))
    (by
      simp [srcZ, srcOf, Va.items]
      rw [hws', hfs']
      rfl) (by rw [List.length_zip]; simp [words12, ten12]; omega)
    (fun p _ => ⟨[some w, some (.d (.list fs)), some (.d (.list ws)), none, some (.d (.str p.1)), some (.d (.bool p.2))], by simp [wipeE], by simp, fun _ => by simp⟩)
  have cS : ((List.zip words12 (ten12.map F)).filter (fun p => p.2)).map (fun p => Va.d (.str p.1)) = S.map Va.d := by rw [hS, chosen, chosenS, List.map_map, List.map_map]; rfl
  rw [cS] at cp
  refine fn_rt (L' := L) rfl ?_
  refine seq_nx (env1 := [some w, some (.d (.list (fs.take 3))), none, none, none, none]) (L1 := L) (by simp [-u_eIsE, g1, g2, g3, hfs', sizeLine_eq]) ?_
  refine seq_nx (env1 := [some w, some (.d (.list (fs.take 6))), none, none, none, none]) (L1 := L) (by simp [-u_eIsE, g4, g5, g6, hfs', sizeLine_eq]) ?_
  refine seq_nx (env1 := [some w, some (.d (.list (fs.take 9))), none, none, none, none]) (L1 := L) (by simp [-u_eIsE, g7, g8, g9, hfs', sizeLine_eq]) ?_
  refine seq_nx (env1 := [some w, some (.d (.list fs)), none, none, none, none]) (L1 := L) (by simp [-u_eIsE, g10, g11, g12, hfs', sizeLine_eq]) ?_
  refine seq_nx (env1 := [some w, some (.d (.list fs)), some (.d (.list ws)), none, none, none]) (L1 := L) (by simp [hws', sizeLine_eq]) ?_
  refine seq_nx (env1 := [some w, some (.d (.list fs)), some (.d (.list ws)), some (.d (.list S)), none, none]) (L1 := L) (by
    rw [u_sSet, u_eDat, cp]
    simp) ?_
  have c0 : cmpOk (.list []) (.list []) = true := by decide
  rcases hw with ⟨rfl, rfl⟩ | ⟨rfl, c2⟩
  · simp [eqv_nil, sizeLine_eq, c0]
  · have q : PyData.eqv (.list [.str "value", .str "error"]) (.list [.str "value", .str "error"]) = true := by decide
    have c1 : cmpOk (.list [.str "value", .str "error"]) (.list [.str "value", .str "error"]) = true := cmpOk_of (by decide +kernel) (by decide +kernel)
    have cu : cutA [Va.d (.str W), Va.d (.str "value"), Va.d (.str "error")] (some 1) none = [Va.d (.str "value"), Va.d (.str "error")] := rfl
    simp [eqv_nil, q, c1, c2, cu, sizeLine_eq]
end L2.HW
namespace L2.HW
open PySem PySem.Spec PyProof.Rows
theorem str_same (s : Str) : PyData.eqv (.str s) (.str s) = true := by simp [PyData.eqv]
theorem str_ok (s t : Str) : cmpOk (.str s) (.str t) = true := by simp [cmpOk, twoStr]
end L2.HW
namespace L2.HW
open PySem PySem.Spec PyProof.Rows
end L2.HW
namespace L2.HW
open PySem PySem.Spec PyProof.Rows
def badOne (x : PyData) : Prop := fine x = true ∧ x.depth ≤ 6 ∧ x.bulk ≤ 100 ∧ webB x = false
instance (x : PyData) : Decidable (badOne x) := by unfold badOne; infer_instance
def rd (a b c d : PyData) : PyData := .tuple [a, b, c, d]
end L2.HW
namespace L2.HW
open PySem PySem.Spec PyProof.Rows
theorem int_ok (i : Int) (h : i.natAbs < 1000) : Ok 0 1 (.int i) := by
  have := log_of (x := i) (k := 10) (by omega) (by omega)
  exact ⟨by simp [fine]; omega, by simp [PyData.depth], by simp [PyData.bulk]⟩
end L2.HW
namespace L2.HW
open PySem PySem.Spec PyProof.Rows
def ext (f : Nat → Bool) (acc : List Row) (w : Nat) : List Row :=
  if f w then (match acc.getLast? with
    | some (a, b) => if b = (w : Int) - 1 then acc.dropLast ++ [(a, (w : Int))] else acc ++ [((w : Int), (w : Int))]
    | none => acc ++ [((w : Int), (w : Int))])
  else acc
end L2.HW
namespace L2.HW
open PySem PySem.Spec PyProof.Rows
def inB (t : Int) : PyData → Bool
  | .int i => decide (0 ≤ i) && decide (i ≤ t + 1)
  | _ => false
end L2.HW
namespace L2.HW
open PySem PySem.Spec PyProof.Rows
end L2.HW
namespace L2.HW
open PySem PySem.Spec PyProof.Rows
end L2.HW
namespace L2.HW
open PySem PySem.Spec PyProof.Rows
end L2.HW
namespace L2.HW
open PySem PySem.Spec PyProof.Rows
end L2.HW
namespace L2.HW
open PySem PySem.Spec PyProof.Rows L2.HW.G
def G.Ed.d (x : Ed) : PyData := .tuple [.int x.u, .int x.v, x.t.d]
end L2.HW
namespace L2.HW
open PySem PySem.Spec PyProof.Rows L2.HW.G
end L2.HW
namespace L2.HW
open PySem PySem.Spec PyProof.Rows L2.HW.G
def wt (es : List Ed) : Nat := (es.map fun d => d.t.d.depth + 2).sum
structure WE (es : List Ed) : Prop where
  fin : ∀ d ∈ es, fine d.d = true
  wt : wt es ≤ 58
theorem wt_mem {es : List Ed} {d : Ed} (h : d ∈ es) : d.t.d.depth + 2 ≤ wt es := by
  unfold wt
  induction es with
  | nil => cases h
  | cons a r ih =>
    rw [List.map_cons, List.sum_cons]
    rcases List.mem_cons.mp h with rfl | h
    · omega
    · have := ih h; omega
theorem ed_depth (d : Ed) : d.d.depth = d.t.d.depth + 1 := by
  simp [Ed.d, PyData.depth, PyData.depthAll]
theorem WE.dep {es : List Ed} (h : WE es) : ∀ d ∈ es, d.d.depth ≤ 57 := fun d hd => by
  have := wt_mem hd
  have := h.wt
  rw [ed_depth]
  omega
theorem WE.sh {es : List Ed} (h : WE es) : ∀ d ∈ es, SeqAt.shaped d.d = true := fun d hd => shaped_of (h.fin d hd) (by have := h.dep d hd; omega)
end L2.HW
namespace L2.HW
open PySem PySem.Spec PyProof.Rows L2.HW.G
end L2.HW
namespace L2.HW
open PySem PySem.Spec PyProof.Rows L2.HW.G
end L2.HW
namespace L2.HW
open PySem PySem.Spec PyProof.Rows L2.HW.G
def cnt1 (ps : List Pr) (b e : Int) (p : Pr) : Bool := decide (p.1 ∈ reach ps [b]) && decide (p.2 ∈ reach (ps.map Prod.swap) [e])
def cntL (ps : List Pr) (b e : Int) : List Nat := (ps.zipIdx.filter fun a => cnt1 ps b e a.1).map (·.2)
end L2.HW
namespace L2.HW
open PySem PySem.Spec PyProof.Rows L2.HW.G
theorem rank_ex {ps : List Pr} (h : Acy ps) : ∃ ρ : Int → Nat, ∀ x y, (x, y) ∈ ps → ρ x < ρ y := by
  obtain ⟨r, hr⟩ := h
  obtain ⟨B, hB⟩ : ∃ B : Int, ∀ p ∈ ps, B ≤ r p.1 := by
    clear hr
    induction ps with
    | nil => exact ⟨0, by simp⟩
    | cons p ps ih =>
      obtain ⟨B, hB⟩ := ih
      refine ⟨min B (r p.1), fun q hq => ?_⟩
      rcases List.mem_cons.mp hq with rfl | hq
      · omega
      · have := hB q hq; omega
  refine ⟨fun x => (r x - B).toNat, fun x y h => ?_⟩
  have h1 : r x < r y := hr (x, y) h
  have h2 : B ≤ r x := hB (x, y) h
  show (r x - B).toNat < (r y - B).toNat
  omega
def ed0 (ps : List Pr) (i : Nat) : Ed := match ps[i]? with
  | some p => ⟨p.1, p.2, .rd i⟩
  | none => ⟨0, 0, .rd i⟩
def es0 (ps : List Pr) (b e : Int) : List Ed := (cntL ps b e).map (ed0 ps)
end L2.HW
namespace L2.HW
open PySem PySem.Spec PyProof.Rows L2.HW.G
end L2.HW
namespace L2.HW
open PySem PySem.Spec PyProof.Rows L2.HW.G
def wo (ps : List Pr) (C : List Nat) : List Pr := (ps.zipIdx.filter fun a => decide (a.2 ∉ C)).map (·.1)
abbrev tN' (l : List Nat) : PyData := .tuple (l.map fun i : Nat => PyData.int (i : Int))
theorem mem_wo {ps : List Pr} {C : List Nat} {p : Pr} : p ∈ wo ps C ↔ ∃ i, ps[i]? = some p ∧ i ∉ C := by
  unfold wo
  simp only [List.mem_map, List.mem_filter, decide_eq_true_eq]
  constructor
  · rintro ⟨a, ⟨h1, h2⟩, rfl⟩
    exact ⟨a.2, List.mem_zipIdx_iff_getElem?.mp h1, h2⟩
  · rintro ⟨i, h1, h2⟩
    exact ⟨(p, i), ⟨List.mem_zipIdx_iff_getElem?.mpr h1, h2⟩, rfl⟩
theorem wo_sub {ps : List Pr} {C : List Nat} : ∀ p ∈ wo ps C, p ∈ ps := fun p h => by
  obtain ⟨i, h1, _⟩ := mem_wo.mp h
  exact List.mem_of_getElem? h1
theorem wo_len (ps : List Pr) (C : List Nat) : (wo ps C).length ≤ ps.length := by
  unfold wo
  rw [List.length_map]
  exact Nat.le_trans (List.length_filter_le _ _) (by rw [List.length_zipIdx]; exact Nat.le_refl _)
theorem wo_acy {ps : List Pr} (h : Acy ps) (C : List Nat) : Acy (wo ps C) := by
  obtain ⟨r, hr⟩ := h
  exact ⟨r, fun p hp => hr p (wo_sub p hp)⟩
end L2.HW
namespace L2.HW
open PySem PySem.Spec PyProof.Rows L2.HW.G
def chs : Nat → List Nat → List (List Nat)
  | 0, _ => [[]]
  | _ + 1, [] => []
  | n + 1, x :: l => (chs n l).map (x :: ·) ++ chs (n + 1) l
abbrev cell (F : List (List Nat)) : Option Ob := some (.lst ((F.map tN').map Va.d))
end L2.HW
namespace L2.HW
open PySem PySem.Spec PyProof.Rows L2.HW.G
theorem GoodS.fewS {top cnt m b e : Int} {ps : List Pr} (h : GoodS top cnt m b e ps) (hm : m ≤ 1000000) (hc : ps.length ≤ 1000000) : L2.HW.fewS (encS m b e ps) := by
  show 2 + 2 * (ps.map dP).length < sizeLine
  rw [List.length_map, sizeLine_eq]
  omega
theorem look_shape {top cnt m b e : Int} {ps : List Pr} (h : GoodS top cnt m b e ps) (hm : m ≤ 1000000) (hc : ps.length ≤ 1000000) (L : LH) : F_look_at_shape [.d (encS m b e ps)] L = .ok (.d .none) L := by
  have e1 := F_is_right_shape_eq (encS m b e ps) (h.fewS hm hc) L
  rw [h.shapeB] at e1
  generalize encS m b e ps = S at *
  simp [F_look_at_shape, mkFn, b_look_at_shape, e1]
structure Sh (m b e : Int) (ps : List Pr) : Prop where
  top : ∃ t c, GoodS t c m b e ps
  m1 : m ≤ 1000000
  len : ps.length ≤ 20
theorem Sh.be {m b e : Int} {ps : List Pr} (h : Sh m b e ps) : b ≠ e := by obtain ⟨t, c, g⟩ := h.top; exact g.be
theorem Sh.ac {m b e : Int} {ps : List Pr} (h : Sh m b e ps) : Acy ps := by obtain ⟨t, c, g⟩ := h.top; exact g.acy
theorem fine_small {i : Int} (h0 : 0 ≤ i) (h1 : i ≤ 1000000) : fine (.int i) = true := by
  have : i.natAbs.log2 < 1920 := by
    by_cases z : i.natAbs = 0
    · rw [z]; decide
    · rw [Nat.log2_lt z]
      exact Nat.lt_of_le_of_lt (show i.natAbs ≤ 1000000 by omega) (by decide +kernel)
  simpa [fine] using this
theorem Sh.fin {m b e : Int} {ps : List Pr} (h : Sh m b e ps) : ∀ p ∈ ps, fine (.int p.1) = true ∧ fine (.int p.2) = true := fun p hp => by
  obtain ⟨t, c, g⟩ := h.top
  have := g.rd p hp
  have := h.m1
  exact ⟨fine_small (by omega) (by omega), fine_small (by omega) (by omega)⟩
end L2.HW
namespace L2.HW
open PySem PySem.Spec PyProof.Rows L2.HW.G
end L2.HW
namespace L2.HW
open PySem PySem.Spec PyProof.Rows L2.HW.G
abbrev rD (r : List Ed) : PyData := .list (r.map Ed.d)
end L2.HW
namespace L2.HW
open PySem PySem.Spec PyProof.Rows
end L2.HW
namespace L2.HW
open PySem PySem.Spec PyProof.Rows L2.HW.G
end L2.HW
namespace L2.HW
open PySem PySem.Spec PyProof.Rows L2.HW.G
def rdP (p : Pr) : Rd := ⟨p.1, p.2, 1, 1⟩
end L2.HW
namespace L2.HW
open PySem PySem.Spec PyProof.Rows L2.HW.G
structure ShL (m b e : Int) (ps : List Pr) : Prop where
  sh : Sh m b e ps
  len : ps.length ≤ 16
  m1 : m ≤ 60
abbrev wy (ps : List Pr) (x y : Int) (bar : List Int) : List (List Nat) := wayL (ps.map rdP) y 70 x bar
end L2.HW
namespace L2.HW
open PySem PySem.Spec PyProof.Rows L2.HW.G
end L2.HW
namespace L2.HW
open PySem PySem.Spec PyProof.Rows L2.HW.G
theorem rngV_nat (a n : Nat) : rngV (a : Int) n = (List.range' a n).map fun i : Nat => Va.d (.int (i : Int)) := by
  unfold rngV
  rw [List.range_eq_range', show List.range' a n = (List.range' 0 n).map (a + ·) by rw [List.map_add_range']; simp, List.map_map]
  apply List.map_congr_left
  intro i _
  simp
theorem srcR2_nat {fs : En → LH → Res (List Va)} {a b : Nat} {env : En} {L L1 : LH} (h : fs env L = .ok [.d (.int (a : Int)), .d (.int (b : Int))] L1) (ha : a ≤ 1000000) (hb : b ≤ 1000000) : srcR2 fs env L = .ok ((List.range' a (b - a)).map fun i : Nat => Va.d (.int (i : Int)), none) L1 := by
  have := srcR2_int (i := (a : Int)) (j := (b : Int)) h (by omega) (by omega)
  rw [this, show ((b : Int) - (a : Int)).toNat = b - a by omega, rngV_nat]
def apart (xs ys : List Int) : Bool := xs.all fun x => decide (x ∉ ys)
def brB (ps : List Pr) (pl : List Int) (w v x z : Int) : Bool := (wy ps w v pl).any fun p => (wy ps x z pl).any fun q => apart (vsR ps p).dropLast (vsR ps q).dropLast
end L2.HW
namespace L2.HW
open PySem PySem.Spec PyProof.Rows L2.HW.G
def inV (r : List Ed) : List Int := (r.map Ed.v).dropLast
def DtR : Type := List Ed × List Ed × Nat × Nat
def DtR.d (r : DtR) : PyData := .tuple [rD r.1, rD r.2.1, .int (r.2.2.1 : Nat), .int (r.2.2.2 : Nat)]
end L2.HW
namespace L2.HW
open PySem PySem.Spec PyProof.Rows L2.HW.G
end L2.HW
namespace L2.HW
open PySem PySem.Spec PyProof.Rows L2.HW.G
abbrev CrR := List Ed × DtR
def CrR.d (c : CrR) : PyData := .tuple [rD c.1, rD c.2.1, rD c.2.2.1, .int (c.2.2.2.1 : Nat), .int (c.2.2.2.2 : Nat)]
mutual
def tok : Tr → Bool
  | .rd _ => true
  | .nd _ ts => !ts.isEmpty && toks ts
def toks : List Tr → Bool
  | [] => true
  | t :: ts => tok t && toks ts
end
end L2.HW
namespace L2.HW
open PySem PySem.Spec PyProof.Rows L2.HW.G
def c4 (ps : List Pr) (pl : List Int) (j k i l : Nat) : Bool := brB ps pl (pl.getD i 0) (pl.getD k 0) (pl.getD j 0) (pl.getD l 0)
def c3 (ps : List Pr) (pl : List Int) (j k i : Nat) : Bool := (List.range' (k + 1) (pl.length - (k + 1))).any (c4 ps pl j k i)
def c2 (ps : List Pr) (pl : List Int) (j k : Nat) : Bool := (List.range' 0 (j - 0)).any (c3 ps pl j k)
def c1 (ps : List Pr) (pl : List Int) (j : Nat) : Bool := (List.range' (j + 1) ((pl.length - 1) - (j + 1))).any (c2 ps pl j)
def c0 (ps : List Pr) (pl : List Int) : Bool := (List.range' 1 (pl.length - 1)).any (c1 ps pl)
end L2.HW
namespace L2.HW
open PySem PySem.Spec PyProof.Rows L2.HW.G
end L2.HW
namespace L2.HW
open PySem PySem.Spec PyProof.Rows L2.HW.G
def EP (es : List Ed) : Int → List Ed → Int → Prop
  | x, [], y => x = y
  | x, d :: r, y => d ∈ es ∧ d.u = x ∧ EP es d.v r y
end L2.HW
namespace L2.HW
open PySem PySem.Spec PyProof.Rows L2.HW.G
def ra (row : List Ed) : List Nat := row.flatMap fun d => rin d.t
end L2.HW
namespace L2.HW
open PySem PySem.Spec PyProof.Rows L2.HW.G
end L2.HW
namespace L2.HW
open PySem PySem.Spec PyProof.Rows L2.HW.G
end L2.HW
namespace L2.HW
open PySem PySem.Spec PyProof.Rows L2.HW.G
end L2.HW
namespace L2.HW
open PySem PySem.Spec PyProof.Rows L2.HW.G
end L2.HW
namespace L2.HW
open PySem PySem.Spec PyProof.Rows L2.HW.G
end L2.HW
namespace L2.HW
open PySem PySem.Spec PyProof.Rows L2.HW.G
theorem ShL.wo {m b e : Int} {ps : List Pr} (h : ShL m b e ps) (C : List Nat) : ShL m b e (wo ps C) := by
  obtain ⟨t, c, g⟩ := h.sh.top
  have wl := wo_len ps C
  have len := h.len
  refine ⟨⟨⟨t, c, ⟨g.m2, g.mt, g.b0, g.b1, g.e0, g.e1, g.be, fun p hp => g.rd p (wo_sub p hp), by have := g.len; omega, wo_acy g.acy C⟩⟩, h.sh.m1, by omega⟩, by omega, h.m1⟩
end L2.HW
namespace L2.HW
open PySem PySem.Spec PyProof.Rows L2.HW.G
end L2.HW
namespace L2.HW
open PySem PySem.Spec PyProof.Rows L2.HW.G
def joinB (ps : List Pr) : List Nat → Bool
  | i :: j :: r => decide ((ps.getD i (0, 0)).2 = (ps.getD j (0, 0)).1) && joinB ps (j :: r)
  | _ => true
def mid (xs : List Int) : List Int := (xs.drop 1).dropLast
end L2.HW
namespace L2.HW
open PySem PySem.Spec PyProof.Rows L2.HW.G
def gtP (ps : List Pr) (k : Nat) : Pr := ps.getD k (0, 0)
def joinQ (Q : List Pr) : Bool := (Q.zip (Q.drop 1)).all fun p => decide (p.1.2 = p.2.1)
theorem join_eq (ps : List Pr) : ∀ is : List Nat, joinB ps is = joinQ (is.map (gtP ps))
  | [] => rfl
  | [i] => rfl
  | i :: j :: r => by
    have ih := join_eq ps (j :: r)
    unfold joinB
    rw [ih]
    unfold joinQ
    simp [gtP]
end L2.HW
namespace L2.HW
open PySem PySem.Spec PyProof.Rows L2.HW.G
end L2.HW
namespace L2.HW
open PySem PySem.Spec PyProof.Rows L2.HW.G
theorem cAll_ty {α : Type} (xs : List α) (p : α → Bool) (L : LH) : cAll [.d (.list (xs.map fun x => PyData.bool (p x)))] L = .ok (.d (.bool (xs.all p))) L := by
  have e : boolsOf ((xs.map fun x => PyData.bool (p x)).map Va.d) = some (xs.map p) := by
    induction xs with
    | nil => rfl
    | cons a r ih => simp only [List.map_cons, boolsOf]; rw [ih]; rfl
  have e2 : Va.items L (.d (.list (xs.map fun x => .bool (p x)))) = some ((xs.map fun x => PyData.bool (p x)).map Va.d) := rfl
  simp only [cAll, one, e2, e]
  congr 3
  rw [List.all_map]
  rfl
end L2.HW
namespace L2.HW
open PySem PySem.Spec PyProof.Rows L2.HW.G
end L2.HW
namespace L2.HW
open PySem PySem.Spec PyProof.Rows L2.HW.G
end L2.HW
namespace L2.HW
open PySem PySem.Spec PyProof.Rows L2.HW.G
structure Ld where
  u : Int
  v : Int
  inn : List Int
  rds : List Nat
deriving DecidableEq, Inhabited
def Ld.d (f : Ld) : PyData := .tuple [.int f.u, .int f.v, .list (f.inn.map PyData.int), .list (f.rds.map fun i : Nat => PyData.int (i : Int))]
abbrev T3 := Int × Int × List Int
def joinLd (fs : List Ld) : Bool := (fs.zip (fs.drop 1)).all fun p => decide (p.1.v = p.2.u)
def sameLd (fs : List Ld) : Bool := fs.all fun f => decide (f.u = (fs.headD default).u) && decide (f.v = (fs.headD default).v)
def alongL (fs : List Ld) : Option T3 := if joinLd fs = true then some ((fs.headD default).u, (fs.getLast?.getD default).v, (fs.map Ld.v).dropLast ++ fs.flatMap Ld.inn) else none
def abreastL (fs : List Ld) : Option T3 := if sameLd fs = true then some ((fs.headD default).u, (fs.headD default).v, fs.flatMap Ld.inn) else none
theorem Ld.dd (f : Ld) : f.d = .tuple [.int f.u, .int f.v, .list (f.inn.map PyData.int), .list (f.rds.map fun i : Nat => PyData.int (i : Int))] := rfl
end L2.HW
namespace L2.HW
open PySem PySem.Spec PyProof.Rows L2.HW.G
end L2.HW
namespace L2.HW
open PySem PySem.Spec PyProof.Rows L2.HW.G
def allO {α : Type} : List (Option α) → Option (List α)
  | [] => some []
  | x :: r => match x, allO r with
    | some a, some l => some (a :: l)
    | _, _ => none
def closeL (t : T3) (fs : List Ld) : Option Ld := if (t.2.2 ++ [t.1, t.2.1]).Nodup then some ⟨t.1, t.2.1, t.2.2, fs.flatMap Ld.rds⟩ else none
def joinT (w : Str) (fs : List Ld) : Option Ld := match (if w = "behind" then alongL fs else abreastL fs) with
  | some t => closeL t fs
  | none => none
def lead1 (ps : List Pr) (g : PyData → Option Ld) : PyData → Option Ld
  | .int i => if 0 ≤ i ∧ i < ps.length then some ⟨(gtP ps i.toNat).1, (gtP ps i.toNat).2, [], [i.toNat]⟩ else none
  | .tuple [.str w, .tuple ts] => if (w = "behind" ∨ w = "beside") ∧ 2 ≤ ts.length then (match allO (ts.map g) with
    | some fs => joinT w fs
    | none => none) else none
  | _ => none
def leadK (ps : List Pr) : Nat → PyData → Option Ld
  | 0, _ => none
  | k + 1, x => lead1 ps (leadK ps k) x
theorem allO_iff {α : Type} : ∀ {l : List (Option α)} {fs : List α}, allO l = some fs ↔ l = fs.map some
  | [], fs => by
    constructor
    · intro h
      have : fs = [] := by simpa [allO] using h.symm
      rw [this]; rfl
    · intro h
      have : fs = [] := by simpa using h.symm
      rw [this]; rfl
  | none :: r, fs => by
    constructor
    · intro h; simp [allO] at h
    · intro h; cases fs <;> simp at h
  | some a :: r, fs => by
    have ih := @allO_iff _ r
    constructor
    · intro h
      unfold allO at h
      cases hr : allO r with
      | none => rw [hr] at h; cases h
      | some l =>
        rw [hr] at h
        have : fs = a :: l := (Option.some.inj h).symm
        rw [this, List.map_cons, ← ih.mp hr]
    · intro h
      cases fs with
      | nil => simp at h
      | cons b l =>
        simp only [List.map_cons, List.cons.injEq, Option.some.injEq] at h
        unfold allO
        rw [ih.mpr h.2, h.1]
theorem eqv_strD (a b : Str) : PyData.eqv (.str a) (.str b) = decide (a = b) := by
  by_cases h : a = b
  · subst h; simp [PyData.eqv]
  · simp [PyData.eqv, h]
end L2.HW
namespace L2.HW
open PySem PySem.Spec PyProof.Rows L2.HW.G
end L2.HW
namespace L2.HW
open PySem PySem.Spec PyProof.Rows L2.HW.G
abbrev nL (R : List Nat) : PyData := .list (R.map fun i : Nat => PyData.int (i : Int))
end L2.HW
namespace L2.HW
open PySem PySem.Spec PyProof.Rows L2.HW.G
end L2.HW
namespace L2.HW
open PySem PySem.Spec PyProof.Rows L2.HW.G
end L2.HW
namespace L2.HW
open PySem PySem.Spec PyProof.Rows L2.HW.G
end L2.HW
namespace L2.HW
open PySem PySem.Spec PyProof.Rows L2.HW.G
end L2.HW
namespace L2.HW
open PySem PySem.Spec PyProof.Rows L2.HW.G
def Led (ps : List Pr) (t : Tr) (f : Ld) : Prop := ∀ k, t.d.depth < k → leadK ps k t.d = some f
def ldT (ps : List Pr) (t : Tr) : Ld := (leadK ps (t.d.depth + 1) t.d).getD default
theorem Led.eq {ps : List Pr} {t : Tr} {f : Ld} (h : Led ps t f) : ldT ps t = f := by
  unfold ldT
  rw [h _ (Nat.lt_succ_self _)]
  rfl
end L2.HW
namespace L2.HW
open PySem PySem.Spec PyProof.Rows L2.HW.G
end L2.HW
namespace L2.HW.G
open PySem
mutual
/-- the roads of a tree -/
def allR : Tr → List Nat
  | .rd i => [i]
  | .nd _ ts => allRs ts
def allRs : List Tr → List Nat
  | [] => []
  | t :: ts => allR t ++ allRs ts
end
mutual
/-- a way through a tree -/
def wayT : Tr → List Nat → Prop
  | .rd i, p => p = [i]
  | .nd w ts, p => if w then wayB ts p else wayS ts p
def wayB : List Tr → List Nat → Prop
  | [], p => p = []
  | t :: ts, p => ∃ p1 p2, p = p1 ++ p2 ∧ wayT t p1 ∧ wayB ts p2
def wayS : List Tr → List Nat → Prop
  | [], _ => False
  | t :: ts, p => wayT t p ∨ wayS ts p
end
end L2.HW.G
namespace L2.HW.G
open PySem
def sub (n : Nat) (p : List Nat) (fr : Nat → Nat) : Nat → Nat := fun i => if i ∈ p then fr i - n else fr i
end L2.HW.G
namespace L2.HW.G
open PySem
end L2.HW.G
namespace L2.HW
open PySem L2.HW.G
end L2.HW
namespace L2.HW
open PySem PySem.Spec PyProof.Rows L2.HW.G
end L2.HW
namespace L2.HW
open PySem PySem.Spec PyProof.Rows L2.HW.G
abbrev vR (r : Row) : Va := .d r.d
end L2.HW
namespace L2.HW
open PySem PySem.Spec PyProof.Rows L2.HW.G
end L2.HW
namespace L2.HW
open PySem PySem.Spec PyProof.Rows L2.HW.G
end L2.HW
namespace L2.HW
open PySem PySem.Spec PyProof.Rows L2.HW.G
end L2.HW
namespace L2.HW
open PySem L2.HW.G
end L2.HW
namespace L2.HW
open PySem L2.HW.G
end L2.HW
namespace L2.HW
open PySem L2.HW.G
end L2.HW
namespace L2.HW
open PySem L2.HW.G
end L2.HW
namespace L2.HW
open PySem L2.HW.G
end L2.HW
namespace L2.HW
open PySem L2.HW.G
end L2.HW
namespace L2.HW
open PySem L2.HW.G
end L2.HW
namespace L2.HW
open PySem L2.HW.G
end L2.HW
namespace L2.HW
open PySem L2.HW.G
end L2.HW
namespace L2.HW.G
open PySem
theorem rk_down {E : Int → Int → Prop} {ρ : Int → Nat} (hρ : ∀ x y, E x y → ρ x < ρ y) {l : List Int} {x y : Int} (h : Pth E x l y) : ∀ q ∈ x :: l, ρ q ≤ ρ y := fun q hq => by
  rcases List.mem_cons.mp hq with rfl | hq
  · exact (rk_end hρ h).1
  · exact rk_le hρ h q hq
theorem cr_ext {E E' : Int → Int → Prop} {ρ : Int → Nat} (hρ : ∀ x y, E' x y → ρ x < ρ y) (k : ∀ x y, E x y → E' x y) {b e b' e' : Int} {P P2 : List Int} (p1 : Pth E' b' P b) (p2 : Pth E' e P2 e') (h : Crosses E b e) : Crosses E' b' e' := by
  obtain ⟨S, A1, A2, R1, R2, B, Q, w, x, v, z, C⟩ := h
  have s := pth_mono k C.s
  have a1 := pth_mono k C.a1
  have a2 := pth_mono k C.a2
  have r1 := pth_mono k C.r1
  have r2 := pth_mono k C.r2
  have pb := pth_mono k C.pb
  have pq := pth_mono k C.pq
  have S' := pth_app p1 s
  have R' := pth_app r2 p2
  refine ⟨P ++ S, A1, A2, R1, R2 ++ P2, B, Q, w, x, v, z, S', a1, a2, r1, R', pb, pq, C.n1, C.n2, C.n3, ?_⟩
  have main := pth_nodup hρ (pth_app S' (pth_app a1 (pth_app a2 (pth_app r1 R'))))
  have wx := (rk_end hρ a1).2 C.n1
  have xv := (rk_end hρ a2).2 C.n2
  have vz := (rk_end hρ r1).2 C.n3
  have nd := C.nd
  have hB : ∀ q ∈ B.dropLast, ρ w < ρ q ∧ ρ q < ρ v := fun q hq => ⟨rk_mem hρ pb q ((List.dropLast_subset _ hq)), rk_lt hρ pb q hq⟩
  have hQ : ∀ q ∈ Q.dropLast, ρ x < ρ q ∧ ρ q < ρ z := fun q hq => ⟨rk_mem hρ pq q ((List.dropLast_subset _ hq)), rk_lt hρ pq q hq⟩
  have e1 : (b :: (S ++ A1 ++ A2 ++ R1 ++ R2 ++ B.dropLast ++ Q.dropLast)) = (b :: S) ++ ((A1 ++ A2 ++ R1) ++ (R2 ++ (B.dropLast ++ Q.dropLast))) := by simp
  rw [e1] at nd
  obtain ⟨_, n2, _⟩ := List.nodup_append.mp nd
  obtain ⟨_, n3, d1⟩ := List.nodup_append.mp n2
  obtain ⟨_, n4, _⟩ := List.nodup_append.mp n3
  have e2 : (b' :: (P ++ S ++ A1 ++ A2 ++ R1 ++ (R2 ++ P2) ++ B.dropLast ++ Q.dropLast)) = (b' :: (P ++ S ++ (A1 ++ (A2 ++ (R1 ++ (R2 ++ P2)))))) ++ (B.dropLast ++ Q.dropLast) := by simp
  rw [e2, List.nodup_append]
  refine ⟨main, n4, fun p hp q hq e => ?_⟩
  subst e
  have hq2 : ρ w < ρ p ∧ ρ p < ρ z := by
    rcases List.mem_append.mp hq with h | h
    · have := hB p h; omega
    · have := hQ p h; omega
  have : p ∈ (b' :: (P ++ S)) ∨ p ∈ A1 ++ A2 ++ R1 ∨ p ∈ R2 ++ P2 := by
    simp only [List.mem_cons, List.mem_append] at hp ⊢
    rcases hp with h | (h | h) | h | h | h | h | h
    · exact .inl (.inl h)
    · exact .inl (.inr (.inl h))
    · exact .inl (.inr (.inr h))
    · exact .inr (.inl (.inl (.inl h)))
    · exact .inr (.inl (.inl (.inr h)))
    · exact .inr (.inl (.inr h))
    · exact .inr (.inr (.inl h))
    · exact .inr (.inr (.inr h))
  rcases this with h | h | h
  · have := rk_down hρ S' p h
    omega
  · exact d1 p h p (List.mem_append_right _ hq) rfl
  · have := rk_mem hρ R' p h
    omega
theorem cr_mono {E E' : Int → Int → Prop} {ρ : Int → Nat} (hρ : ∀ x y, E' x y → ρ x < ρ y) (k : ∀ x y, E x y → E' x y) {b e : Int} (h : Crosses E b e) : Crosses E' b e := cr_ext hρ k (P := []) (P2 := []) rfl rfl h
end L2.HW.G
namespace L2.HW.G
open PySem
structure Core (E : Int → Int → Prop) (A1 A2 R1 B Q : List Int) (w x v z : Int) : Prop where
  a1 : Pth E w A1 x
  a2 : Pth E x A2 v
  r1 : Pth E v R1 z
  pb : Pth E w B v
  pq : Pth E x Q z
  n1 : A1 ≠ []
  n2 : A2 ≠ []
  n3 : R1 ≠ []
  nd : (A1 ++ A2 ++ R1 ++ (B.dropLast ++ Q.dropLast)).Nodup
theorem Cr.core {E : Int → Int → Prop} {b e : Int} {S A1 A2 R1 R2 B Q : List Int} {w x v z : Int} (C : Cr E b e S A1 A2 R1 R2 B Q w x v z) : Core E A1 A2 R1 B Q w x v z := by
  refine ⟨C.a1, C.a2, C.r1, C.pb, C.pq, C.n1, C.n2, C.n3, ?_⟩
  have nd := C.nd
  have e1 : (b :: (S ++ A1 ++ A2 ++ R1 ++ R2 ++ B.dropLast ++ Q.dropLast)) = (b :: S) ++ ((A1 ++ A2 ++ R1) ++ (R2 ++ (B.dropLast ++ Q.dropLast))) := by simp
  rw [e1] at nd
  obtain ⟨_, n2, _⟩ := List.nodup_append.mp nd
  refine List.Sublist.nodup (List.Sublist.append (List.Sublist.refl _) (List.sublist_append_right _ _)) n2
end L2.HW.G
namespace L2.HW
open PySem PySem.Spec PyProof.Rows
structure Gr (m : Int) (es : List Pr) : Prop where
  m2 : 2 ≤ m
  m7 : m ≤ 7
  rd : ∀ p ∈ es, 0 ≤ p.1 ∧ p.1 < m ∧ 0 ≤ p.2 ∧ p.2 < m ∧ p.1 ≠ 1
  acy : Acy es
theorem Acy.sub {ps qs : List Pr} (h : Acy qs) (hs : ∀ p ∈ ps, p ∈ qs) : Acy ps := let ⟨r, hr⟩ := h; ⟨r, fun p hp => hr p (hs p hp)⟩
theorem Gr.split {m : Int} {es : List Pr} (h : Gr m es) (h7 : m < 7) (i : Nat) (hi : i < es.length) : Gr (m + 1) (es.take i ++ [(es[i].1, m), (m, es[i].2)] ++ es.drop (i + 1)) := by
  have hr := h.rd _ (List.getElem_mem hi)
  have m2 := h.m2
  refine ⟨by omega, by omega, fun p hp => ?_, ?_⟩
  · simp only [List.mem_append, List.mem_cons, List.not_mem_nil, or_false] at hp
    rcases hp with (hp | rfl | rfl) | hp
    · have := h.rd p (List.mem_of_mem_take hp); exact ⟨this.1, by omega, this.2.2.1, by omega, this.2.2.2.2⟩
    · exact ⟨hr.1, by show es[i].1 < m + 1; omega, by show 0 ≤ m; omega, by show m < m + 1; omega, hr.2.2.2.2⟩
    · exact ⟨by show 0 ≤ m; omega, by show m < m + 1; omega, hr.2.2.1, by show es[i].2 < m + 1; omega, by show m ≠ 1; omega⟩
    · have := h.rd p (List.mem_of_mem_drop hp); exact ⟨this.1, by omega, this.2.2.1, by omega, this.2.2.2.2⟩
  · obtain ⟨r, hr'⟩ := h.acy
    have old : ∀ x, x < m → (if x = m then 2 * r es[i].1 + 1 else 2 * r x) = 2 * r x := fun x hx => if_neg (by omega)
    refine ⟨fun x => if x = m then 2 * r es[i].1 + 1 else 2 * r x, fun p hp => ?_⟩
    simp only [List.mem_append, List.mem_cons, List.not_mem_nil, or_false] at hp
    rcases hp with (hp | rfl | rfl) | hp
    · have h1 := h.rd p (List.mem_of_mem_take hp); have h2 := hr' p (List.mem_of_mem_take hp)
      simp only [old _ h1.2.1, old _ h1.2.2.2.1]; omega
    · simp only [old _ hr.2.1, if_true]; omega
    · have := hr' _ (List.getElem_mem hi)
      simp only [old _ hr.2.2.2.1, if_true]; omega
    · have h1 := h.rd p (List.mem_of_mem_drop hp); have h2 := hr' p (List.mem_of_mem_drop hp)
      simp only [old _ h1.2.1, old _ h1.2.2.2.1]; omega
theorem Gr.twice {m : Int} {es : List Pr} (h : Gr m es) (i : Nat) (hi : i < es.length) : Gr m (es.take i ++ [(es[i].1, es[i].2)] ++ es.drop i) := by
  have sub : ∀ p ∈ es.take i ++ [(es[i].1, es[i].2)] ++ es.drop i, p ∈ es := fun p hp => by
    simp only [List.mem_append, List.mem_cons, List.not_mem_nil, or_false] at hp
    rcases hp with (hp | rfl) | hp
    · exact List.mem_of_mem_take hp
    · exact List.getElem_mem hi
    · exact List.mem_of_mem_drop hp
  exact ⟨h.m2, h.m7, fun p hp => h.rd p (sub p hp), h.acy.sub sub⟩
theorem atI_pr (es : List Pr) (i : Nat) (hi : i < es.length) : atI ((es.map dP).map Va.d) (i : Int) = some (vP es[i]) := by
  simp [atI, ixN, hi, List.getElem?_eq_getElem hi]
theorem grown_ex {L : LH} {n : Nat} {p : Int} {c : Nat} (hn : n < L.length) (hc : c ≤ 1000) :
    ∃ (m : Int) (es : List Pr) (p' : Int), F_l_grown [.loc n, .d (.int (c : Int))] (L.set n (P1 p)) = .ok (.d (encS m 0 1 es)) (L.set n (P1 p')) ∧ Gr m es ∧ es.length = c + 1 := by
  have loop : ∀ (ws : List Va) (es : List Pr) (m q : Int) (s4 s5 s6 s7 : Option Va), Gr m es → 0 < es.length → es.length + ws.length ≤ 1001 → ∃ (es' : List Pr) (m' q' : Int) (t4 t5 t6 t7 : Option Va), Gr m' es' ∧ es'.length = es.length + ws.length ∧
      forL (tN 4) b_l_grown_1 ws [some (.loc n), some (.d (.int (c : Int))), some (.d (.list (es.map dP))), some (.d (.int m)), s4, s5, s6, s7] (L.set n (P1 q)) =
        .nx [some (.loc n), some (.d (.int (c : Int))), some (.d (.list (es'.map dP))), some (.d (.int m')), t4, t5, t6, t7] (L.set n (P1 q')) := by
    intro ws
    induction ws with
    | nil => intro es m q s4 s5 s6 s7 h _ _; exact ⟨es, m, q, s4, s5, s6, s7, h, rfl, rfl⟩
    | cons w ws ih =>
      intro es m q s4 s5 s6 s7 h h0 hl
      simp only [List.length_cons] at hl
      obtain ⟨a, q1, a0, a1, ea⟩ := take_ex (L := L) (n := n) (p := q) (s := (es.length : Int)) hn (by omega) (log_small (by omega) (by omega))
      obtain ⟨b, q2, b0, b1, eb⟩ := take_ex (L := L) (n := n) (p := q1) (s := 2) hn (by omega)
      obtain ⟨A, rfl⟩ : ∃ A : Nat, a = (A : Int) := ⟨a.toNat, by omega⟩
      have hA : A < es.length := by omega
      have at_ := atI_pr es A hA
      have lo := cut_lo es (A : Int) (by omega) (by omega)
      have hi0 := cut_hi es (A : Int) (by omega) (by omega)
      have hi1 := cut_hi es ((A : Int) + 1) (by omega) (by omega)
      rw [show ((A : Int) + 1).toNat = A + 1 by omega] at hi1
      rw [Int.toNat_natCast] at lo hi0
      have body : ∃ (es1 : List Pr) (m1 : Int), Gr m1 es1 ∧ es1.length = es.length + 1 ∧ b_l_grown_1 [some (.loc n), some (.d (.int (c : Int))), some (.d (.list (es.map dP))), some (.d (.int m)), some w, s5, s6, s7] (L.set n (P1 q)) =
          .nx [some (.loc n), some (.d (.int (c : Int))), some (.d (.list (es1.map dP))), some (.d (.int m1)), some w, some (.d (.int A)), some (.d (.int es[A].1)), some (.d (.int es[A].2))] (L.set n (P1 q2)) := by
        have one : ∀ (es1 : List Pr) (m1 : Int), (sIf (tAndF (tVal (eOp opEq (eCall F_l_take (aCons (eVar 0) (aCons (eC (.int 2)) aNil))) (eC (.int 0)))) (tVal (eOp opLt (eVar 3) (eC (.int 7))))) (sSeq (sSet 2 (eOp opAdd (eOp opAdd (eSl (eVar 2) pNone (pSome (eVar 5))) (eDat (fLst (aCons (eTup (aCons (eVar 6) (aCons (eVar 3) aNil))) (aCons (eTup (aCons (eVar 3) (aCons (eVar 7) aNil))) aNil))))) (eSl (eVar 2) (pSome (eOp opAdd (eVar 5) (eC (.int 1)))) pNone))) (sSet 3 (eOp opAdd (eVar 3) (eC (.int 1))))) (sSet 2 (eOp opAdd (eOp opAdd (eSl (eVar 2) pNone (pSome (eVar 5))) (eDat (fLst (aCons (eTup (aCons (eVar 6) (aCons (eVar 7) aNil))) aNil)))) (eSl (eVar 2) (pSome (eVar 5)) pNone)))) [some (.loc n), some (.d (.int (c : Int))), some (.d (.list (es.map dP))), some (.d (.int m)), some w, some (.d (.int A)), some (.d (.int es[A].1)), some (.d (.int es[A].2))] (L.set n (P1 q1)) = .nx [some (.loc n), some (.d (.int (c : Int))), some (.d (.list (es1.map dP))), some (.d (.int m1)), some w, some (.d (.int A)), some (.d (.int es[A].1)), some (.d (.int es[A].2))] (L.set n (P1 q2)) →
            b_l_grown_1 [some (.loc n), some (.d (.int (c : Int))), some (.d (.list (es.map dP))), some (.d (.int m)), some w, s5, s6, s7] (L.set n (P1 q)) =
          .nx [some (.loc n), some (.d (.int (c : Int))), some (.d (.list (es1.map dP))), some (.d (.int m1)), some w, some (.d (.int A)), some (.d (.int es[A].1)), some (.d (.int es[A].2))] (L.set n (P1 q2)) := fun es1 m1 hh => by
          refine seq_nx (env1 := [some (.loc n), some (.d (.int (c : Int))), some (.d (.list (es.map dP))), some (.d (.int m)), some w, some (.d (.int A)), s6, s7]) (L1 := L.set n (P1 q1)) (by simp [-List.map_map, ea]) ?_
          refine seq_nx (env1 := [some (.loc n), some (.d (.int (c : Int))), some (.d (.list (es.map dP))), some (.d (.int m)), some w, some (.d (.int A)), some (.d (.int es[A].1)), some (.d (.int es[A].2))]) (L1 := L.set n (P1 q1)) (by simp [-List.map_map, at_]) hh
        have z1 : min A es.length + 2 + (es.length - (A + 1)) ≤ 16777216 := by omega
        have z2 : min A es.length + 2 ≤ 16777216 := by omega
        have z3 : min A es.length + 1 + (es.length - A) ≤ 16777216 := by omega
        have z4 : min A es.length + 1 ≤ 16777216 := by omega
        by_cases hb : b = 0
        · subst hb
          by_cases h7 : m < 7
          · refine ⟨_, _, h.split h7 A hA, by simp; omega, one _ _ ?_⟩
            simp [-List.map_map, eb, eqv_int, h7, Va.items, cutA_map, ← List.map_take, ← List.map_drop, lo, hi1, sizeLine_eq, z1, z2]
          · refine ⟨_, _, h.twice A hA, by simp; omega, one _ _ ?_⟩
            simp [-List.map_map, eb, eqv_int, h7, Va.items, cutA_map, ← List.map_take, ← List.map_drop, lo, hi0, sizeLine_eq, z3, z4]
        · refine ⟨_, _, h.twice A hA, by simp; omega, one _ _ ?_⟩
          simp [-List.map_map, eb, eqv_int, hb, Va.items, cutA_map, ← List.map_take, ← List.map_drop, lo, hi0, sizeLine_eq, z3, z4]
      obtain ⟨es1, m1, g1, l1, eb1⟩ := body
      obtain ⟨es', m', q', t4, t5, t6, t7, g', l', e'⟩ := ih es1 m1 q2 (some w) (some (.d (.int A))) (some (.d (.int es[A].1))) (some (.d (.int es[A].2))) g1 (by omega) (by omega)
      refine ⟨es', m', q', t4, t5, t6, t7, g', by simp only [List.length_cons]; omega, ?_⟩
      unfold forL
      simp only [u_tN, List.set_cons_succ, List.set_cons_zero]
      rw [eb1]
      exact e'
  obtain ⟨es, m, q, t4, t5, t6, t7, g, l, e⟩ := loop (rngV 0 c) [(0, 1)] 2 p none none none none ⟨by omega, by omega, by simp, ⟨fun x => x, by simp⟩⟩ (by simp) (by simp [rngV]; omega)
  refine ⟨m, es, q, ?_, g, by simp [rngV] at l; omega⟩
  refine fn_out (L' := L.set n (P1 q)) (w := .d (encS m 0 1 es)) rfl ?_ (settle_d _ _ _ _) (outV_set0 _ hn)
  refine seq_nx (env1 := [some (.loc n), some (.d (.int (c : Int))), some (.d (.list ([(0, 1)].map dP))), none, none, none, none, none]) (L1 := L.set n (P1 p)) (by simp [sizeLine_eq]) ?_
  refine seq_nx (env1 := [some (.loc n), some (.d (.int (c : Int))), some (.d (.list ([(0, 1)].map dP))), some (.d (.int 2)), none, none, none, none]) (L1 := L.set n (P1 p)) (by simp) ?_
  refine seq_nx (for_nx (srcR1_nat (by simp) (by rw [sizeLine_eq]; omega)) e) ?_
  simp [-List.map_map, Va.items, sizeLine_eq]
theorem Gr.good {m : Int} {es : List Pr} (h : Gr m es) {cnt : Int} (hc : (es.length : Int) ≤ cnt) : GoodS 7 cnt m 0 1 es :=
  have := h.m2
  ⟨h.m2, h.m7, by omega, by omega, by omega, by omega, by omega, h.rd, hc, h.acy⟩
end L2.HW
namespace L2.HW
open PySem PySem.Spec PyProof.Rows L2.HW.G
theorem Rch.map {ps qs : List Pr} {φ : Int → Int} (k : ∀ p ∈ ps, Rch qs (φ p.1) (φ p.2)) {x y : Int} (h : Rch ps x y) : Rch qs (φ x) (φ y) := by
  induction h with
  | refl => exact .refl _
  | step _ m ih => exact ih.trans (k _ m)
theorem mem_cut3 {es : List Pr} {i : Nat} (hi : i < es.length) (p : Pr) : p ∈ es ↔ p ∈ es.take i ∨ p = es[i] ∨ p ∈ es.drop (i + 1) := by
  have e : es = es.take i ++ (es[i] :: es.drop (i + 1)) := by
    rw [← List.drop_eq_getElem_cons hi, List.take_append_drop]
  have h : p ∈ es.take i ++ (es[i] :: es.drop (i + 1)) ↔ p ∈ es.take i ∨ p = es[i] ∨ p ∈ es.drop (i + 1) := by rw [List.mem_append, List.mem_cons]
  rw [← e] at h
  exact h
structure Gn (m : Int) (es : List Pr) : Prop where
  gr : Gr m es
  nc : ¬ Crosses (adjP es) 0 1
  rc : Rch es 0 1
theorem Gn.split {m : Int} {es : List Pr} (h : Gn m es) (h7 : m < 7) (i : Nat) (hi : i < es.length) : Gn (m + 1) (es.take i ++ [(es[i].1, m), (m, es[i].2)] ++ es.drop (i + 1)) := by
  have g := h.gr.split h7 i hi
  have m2 := h.gr.m2
  have hr := h.gr.rd _ (List.getElem_mem hi)
  have mem : ∀ p, p ∈ es.take i ++ [(es[i].1, m), (m, es[i].2)] ++ es.drop (i + 1) ↔ (p ∈ es.take i ∨ p = (es[i].1, m) ∨ p = (m, es[i].2) ∨ p ∈ es.drop (i + 1)) := fun p => by
    simp only [List.mem_append, List.mem_cons, List.not_mem_nil, or_false]
    constructor
    · rintro ((h | h | h) | h)
      · exact .inl h
      · exact .inr (.inl h)
      · exact .inr (.inr (.inl h))
      · exact .inr (.inr (.inr h))
    · rintro (h | h | h | h)
      · exact .inl (.inl h)
      · exact .inl (.inr (.inl h))
      · exact .inl (.inr (.inr h))
      · exact .inr h
  have old : ∀ p, p ∈ es.take i ∨ p ∈ es.drop (i + 1) → p.1 ≠ m ∧ p.2 ≠ m := fun p hp => by
    have : p ∈ es := by
      rcases hp with hp | hp
      · exact List.mem_of_mem_take hp
      · exact List.mem_of_mem_drop hp
    have := h.gr.rd p this
    exact ⟨by omega, by omega⟩
  refine ⟨g, fun hc => h.nc ?_, ?_⟩
  · obtain ⟨ρ, hρ⟩ := rank_ex g.acy
    refine cr_contract (p := m) (a := es[i].1) (c := es[i].2) hρ ⟨fun x hx => ?_, fun y hy => ?_, fun x y hx h1 h2 => ?_, List.getElem_mem hi, (mem _).mpr (.inr (.inl rfl)), (mem _).mpr (.inr (.inr (.inl rfl)))⟩ (by omega) (by omega) hc
    · rcases (mem _).mp hx with k | k | k | k
      · exact absurd rfl (old _ (.inl k)).2
      · exact congrArg Prod.fst k
      · have : m = es[i].2 := congrArg Prod.snd k
        omega
      · exact absurd rfl (old _ (.inr k)).2
    · rcases (mem _).mp hy with k | k | k | k
      · exact absurd rfl (old _ (.inl k)).1
      · have : m = es[i].1 := congrArg Prod.fst k
        omega
      · exact congrArg Prod.snd k
      · exact absurd rfl (old _ (.inr k)).1
    · rcases (mem _).mp hx with k | k | k | k
      · exact List.mem_of_mem_take k
      · exact absurd (congrArg Prod.snd k) h2
      · exact absurd (congrArg Prod.fst k) h1
      · exact List.mem_of_mem_drop k
  · refine Rch.map (φ := fun x => x) (fun p hp => ?_) h.rc
    rcases (mem_cut3 hi p).mp hp with k | k | k
    · exact .step (.refl _) ((mem _).mpr (.inl k))
    · rw [k]
      exact .step (.step (.refl _) ((mem _).mpr (.inr (.inl rfl)))) ((mem _).mpr (.inr (.inr (.inl rfl))))
    · exact .step (.refl _) ((mem _).mpr (.inr (.inr (.inr k))))
theorem Gn.twice {m : Int} {es : List Pr} (h : Gn m es) (i : Nat) (hi : i < es.length) : Gn m (es.take i ++ [(es[i].1, es[i].2)] ++ es.drop i) := by
  have sub : ∀ p ∈ es.take i ++ [(es[i].1, es[i].2)] ++ es.drop i, p ∈ es := fun p hp => by
    simp only [List.mem_append, List.mem_cons, List.not_mem_nil, or_false] at hp
    rcases hp with (hp | rfl) | hp
    · exact List.mem_of_mem_take hp
    · exact List.getElem_mem hi
    · exact List.mem_of_mem_drop hp
  have sup : ∀ p ∈ es, p ∈ es.take i ++ [(es[i].1, es[i].2)] ++ es.drop i := fun p hp => by
    rw [← List.take_append_drop i es] at hp
    rcases List.mem_append.mp hp with k | k
    · exact List.mem_append_left _ (List.mem_append_left _ k)
    · exact List.mem_append_right _ k
  obtain ⟨ρ, hρ⟩ := rank_ex h.gr.acy
  exact ⟨h.gr.twice i hi, fun hc => h.nc (cr_mono hρ (fun x y k => sub _ k) hc), Rch.map (φ := fun x => x) (fun p hp => .step (.refl _) (sup p hp)) h.rc⟩
end L2.HW
namespace L2.HW
open PySem PySem.Spec PyProof.Rows L2.HW.G
end L2.HW
namespace L2.HW
open PySem PySem.Spec PyProof.Rows L2.HW.G
end L2.HW
namespace L2.HW
open PySem PySem.Spec PyProof.Rows L2.HW.G
end L2.HW
namespace L2.HW
open PySem PySem.Spec PyProof.Rows L2.HW.G
end L2.HW
namespace L2.HW
open PySem PySem.Spec PyProof.Rows L2.HW.G
end L2.HW
namespace L2.HW
open PySem PySem.Spec PyProof.Rows L2.HW.G
end L2.HW
namespace L2.HW
open PySem PySem.Spec PyProof.Rows L2.HW.G
theorem fine_nat {i : Nat} (h : i ≤ 1000000) : fine (.int (i : Int)) = true := fine_small (by omega) (by omega)
theorem fine_tN {C : List Nat} (h : ∀ i ∈ C, i ≤ 1000000) : fine (tN' C) = true := by
  have : fineAll (C.map fun i : Nat => PyData.int (i : Int)) = true := fineAll_iff.mpr fun x hx => by
    obtain ⟨i, hi, rfl⟩ := List.mem_map.mp hx
    exact fine_nat (h i hi)
  simpa [fine] using this
theorem dep_tN (C : List Nat) : (tN' C).depth ≤ 1 := by
  have : PyData.depthAll (C.map fun i : Nat => PyData.int (i : Int)) ≤ 0 := depthAll_le.mpr fun x hx => by
    obtain ⟨i, hi, rfl⟩ := List.mem_map.mp hx
    simp [PyData.depth]
  simp only [PyData.depth]
  omega
end L2.HW
namespace L2.HW
open PySem PySem.Spec PyProof.Rows L2.HW.G
def shortE' (es : List Ed) (b e : Int) : Option (List Ed) := (ascA (once ((es.filter fun d => decide (d.v ≠ b) && decide (d.v ≠ e)).map (·.v)))).findSome? (shortAt es)
def redE' (b e : Int) : Nat → List Ed → List Ed
  | 0, es => es
  | n + 1, es => match shortE' es b e with
    | some es' => redE' b e n (mergeE es')
    | none => es
def treeX (ps : List Pr) (b e : Int) (C : List Nat) : Bool := (redE' b e (es0 (wo ps C) b e).length (mergeE (es0 (wo ps C) b e))).length == 1
def fewX (ps : List Pr) (b e : Int) : Option (List Nat) := (List.range (cntL ps b e).length).findSome? fun n => (chs n (cntL ps b e)).find? (treeX ps b e)
def s9 : List Pr := [(0,1),(0,2),(1,2),(1,3),(2,3)]
def s10 : List Pr := [(0,1),(0,2),(1,2),(1,2),(1,3),(2,3),(0,1)]
def s12 : List Pr := [(1,4),(0,1),(0,2),(0,3),(2,3),(2,4),(3,4),(1,2)]
def s13 : List Pr := [(0,1),(0,2),(0,3),(0,4),(1,2),(2,3),(3,4),(1,5),(2,5),(3,5),(4,5)]
def s14 : List Pr := [(1,2),(1,3),(1,4),(2,3),(3,4),(2,5),(3,5),(4,5)]
def s15 : List Pr := [(0,1)] ++ s14 ++ [(0,5)]
def s16 : List Pr := s14.map fun p => (p.1 - 1, p.2 - 1)
def s17 : List Pr := [(0,1),(1,2),(1,3),(2,3),(2,4),(3,4),(4,5),(4,6),(5,6),(5,7),(6,7),(0,7)]
theorem f0 : fewX [] 0 1 = none := by decide +kernel
end L2.HW
namespace L2.HW
open PySem PySem.Spec PyProof.Rows L2.HW.G
end L2.HW
namespace L2.HW
open PySem PySem.Spec PyProof.Rows L2.HW.G
end L2.HW
namespace L2.HW
open PySem PySem.Spec PyProof.Rows L2.HW.G
theorem ne_self {x : PyData} (h : fine x = true) (hd : x.depth ≤ 60) : cmpOk x x = true ∧ PyData.eqv x x = true := ⟨cmpOk_of (shaped_of h (by omega)) (shaped_of h (by omega)), eqv_rfl h⟩
end L2.HW
namespace L2.HW
open PySem PySem.Spec PyProof.Rows L2.HW.G
end L2.HW
namespace L2.HW
open PySem PySem.Spec PyProof.Rows L2.HW.G
theorem pick_ex {R : List PyData} {L : LH} {n : Nat} {p : Int} (hn : n < L.length) (h0 : 0 < R.length) (h1 : R.length ≤ 100000) : ∃ y ∈ R, ∃ p', F_l_pick [.loc n, .d (.list R)] (L.set n (P1 p)) = .ok (.d y) (L.set n (P1 p')) := by
  obtain ⟨t, p1, t0, t1, et⟩ := take_ex (p := p) (s := (R.length : Int)) hn (by omega) (log_small (by omega) (by omega))
  obtain ⟨y, hy, ha⟩ := atI_map R t t0 t1
  refine ⟨y, hy, p1, ?_⟩
  have lr : (R.map Va.d).length = R.length := List.length_map ..
  simp [F_l_pick, b_l_pick, mkFn, Va.seq, et, ha, outV_set0, hn]
def RowN (x : PyData) : Prop := ∃ p : List Nat, x = tN' p ∧ p.length ≤ 20 ∧ ∀ i ∈ p, i ≤ 1000
theorem bulk_tN (C : List Nat) : PyData.bulkAll (C.map fun i : Nat => PyData.int (i : Int)) = C.length := by
  induction C with
  | nil => rfl
  | cons a r ih => rw [List.map_cons, List.length_cons, ← ih]; simp [PyData.bulkAll, PyData.bulk]; omega
theorem RowN.ok {x : PyData} (h : RowN x) : Ok 1 30 x := by
  obtain ⟨p, rfl, h1, h2⟩ := h
  refine ⟨fine_tN fun i hi => by have := h2 i hi; omega, dep_tN p, ?_⟩
  have := bulk_tN p
  simp only [PyData.bulk]
  omega
end L2.HW
namespace L2.HW
open PySem PySem.Spec PyProof.Rows L2.HW.G
theorem Ok.tup {d b : Nat} {xs : List PyData} (h : ∀ x ∈ xs, Ok d b x) : Ok (d + 1) (xs.length * (b + 1)) (.tuple xs) := by
  refine ⟨?_, ?_, ?_⟩
  · simp only [fine]
    exact fineAll_iff.mpr fun x hx => (h x hx).1
  · simp only [PyData.depth]
    have : PyData.depthAll xs ≤ d := depthAll_le.mpr fun x hx => (h x hx).2.1
    omega
  · simp only [PyData.bulk]
    induction xs with
    | nil => simp [PyData.bulkAll]
    | cons a r ih =>
      have h1 := (h a List.mem_cons_self).2.2
      have h2 := ih fun x hx => h x (List.mem_cons_of_mem _ hx)
      simp only [PyData.bulkAll, List.length_cons]
      rw [Nat.add_mul]
      omega
theorem Ok.lst {d b : Nat} {xs : List PyData} (h : Ok d b (.tuple xs)) : Ok d b (.list xs) := by
  obtain ⟨h1, h2, h3⟩ := h
  exact ⟨by simpa [fine] using h1, by simpa [PyData.depth] using h2, by simpa [PyData.bulk] using h3⟩
end L2.HW
namespace L2.HW
open PySem PySem.Spec PyProof.Rows L2.HW.G
end L2.HW
namespace L2.HW
open PySem PySem.Spec PyProof.Rows L2.HW.G
theorem Ok.int {i : Int} (h0 : 0 ≤ i) (h1 : i ≤ 1000000) {d b : Nat} : Ok d b (.int i) := ⟨fine_small h0 h1, by simp [PyData.depth], by simp [PyData.bulk]⟩
end L2.HW
namespace L2.HW
open PySem PySem.Spec PyProof.Rows L2.HW.G
end L2.HW
namespace L2.HW
open PySem PySem.Spec PyProof.Rows L2.HW.G
abbrev dep : List Pr := [(0, 1), (1, 2), (2, 3), (0, 4), (4, 5), (5, 2), (1, 5), (5, 3)]
abbrev loo : List Pr := [(0, 1), (1, 2), (2, 3), (0, 2), (1, 4), (4, 3), (1, 5), (5, 3)]
abbrev t3 (p q r : List Nat) : PyData := .tuple [tN' p, tN' q, tN' r]
end L2.HW
namespace L2.HW
open PySem PySem.Spec PyProof.Rows L2.HW.G
theorem Gr.drop {m : Int} {es : List Pr} (h : Gr m es) : Gr m (es.drop 1) := ⟨h.m2, h.m7, fun p hp => h.rd p (List.mem_of_mem_drop hp), Acy.sub h.acy fun p hp => List.mem_of_mem_drop hp⟩
end L2.HW
namespace L2.HW
open PySem PySem.Spec PyProof.Rows L2.HW.G
abbrev Sq := Int × Int × Int × List Pr
abbrev qa : Sq := (7, 0, 3, [(0, 1), (0, 2), (1, 2), (1, 3), (2, 3), (0, 3)])
abbrev qb : Sq := (9, 8, 3, [(0, 1), (0, 2), (1, 2), (1, 3), (2, 3), (8, 0), (8, 7), (7, 3), (6, 3)])
end L2.HW
namespace L2.HW
open PySem PySem.Spec PyProof.Rows L2.HW.G
end L2.HW
namespace L2.HW
open PySem PySem.Spec PyProof.Rows L2.HW.G
end L2.HW
namespace L2.HW
open PySem PySem.Spec PyProof.Rows L2.HW.G
end L2.HW
namespace L2.HW
open PySem PySem.Spec PyProof.Rows L2.HW.G
end L2.HW
namespace L2.HW
open PySem PySem.Spec PyProof.Rows L2.HW.G
end L2.HW
namespace L2.HW
open PySem PySem.Spec PyProof.Rows L2.HW.G
theorem Rch.up {qs ps : List Pr} (h : ∀ p ∈ qs, p ∈ ps) {x y : Int} (r : Rch qs x y) : Rch ps x y := Rch.map (φ := fun x => x) (fun p hp => .step (.refl _) (h p hp)) r
theorem Crosses.up {qs ps : List Pr} (ac : Acy ps) (h : ∀ p ∈ qs, p ∈ ps) {b e : Int} (r : Crosses (adjP qs) b e) : Crosses (adjP ps) b e := by
  obtain ⟨ρ, hρ⟩ := rank_ex ac
  exact cr_mono hρ (fun x y k => h _ k) r
end L2.HW
namespace L2.HW.G
open PySem
end L2.HW.G
namespace L2.HW
open PySem PySem.Spec PyProof.Rows L2.HW.G
theorem Acy.sl {qs ps : List Pr} (ac : Acy ps) (h : qs.Sublist ps) : Acy qs := ac.sub fun p hp => h.subset hp
end L2.HW
namespace L2.HW
open PySem PySem.Spec PyProof.Rows L2.HW.G
theorem GoodS.sl {t c m b e : Int} {ps qs : List Pr} (g : GoodS t c m b e ps) (h : qs.Sublist ps) : GoodS t c m b e qs := ⟨g.m2, g.mt, g.b0, g.b1, g.e0, g.e1, g.be, fun p hp => g.rd p (h.subset hp), by have := h.length_le; have := g.len; omega, g.acy.sl h⟩
end L2.HW
namespace L2.HW
open PySem PySem.Spec PyProof.Rows L2.HW.G
end L2.HW
namespace L2.HW
open PySem PySem.Spec PyProof.Rows L2.HW.G
end L2.HW
namespace L2.HW
open PySem L2.HW.G
mutual
theorem Tr.ind {P : Tr → Prop} (h1 : ∀ i, P (.rd i)) (h2 : ∀ w ts, (∀ t ∈ ts, P t) → P (.nd w ts)) : ∀ t, P t
  | .rd i => h1 i
  | .nd w ts => h2 w ts (Tr.inds h1 h2 ts)
theorem Tr.inds {P : Tr → Prop} (h1 : ∀ i, P (.rd i)) (h2 : ∀ w ts, (∀ t ∈ ts, P t) → P (.nd w ts)) : ∀ ts : List Tr, ∀ t ∈ ts, P t
  | [], _, h => nomatch h
  | s :: ts, t, h => (List.mem_cons.mp h).elim (fun e => e ▸ Tr.ind h1 h2 s) (Tr.inds h1 h2 ts t)
end
mutual
/-- two parts or more everywhere -/
def wf2 : Tr → Prop
  | .rd _ => True
  | .nd _ ts => 2 ≤ ts.length ∧ wf2s ts
def wf2s : List Tr → Prop
  | [] => True
  | t :: ts => wf2 t ∧ wf2s ts
end
def lsT (t : Tr) : Int := (minI ((allR t).map fun i : Nat => (i : Int))).getD 0
def flat1 (w : Bool) : Tr → List Tr
  | .rd i => [.rd i]
  | .nd w' us => if w' = w then us else [.nd w' us]
def byL (l : List Tr) : List Tr := (sortKy ((l.map lsT).zip l)).map (·.2)
def ordW (w : Bool) (l : List Tr) : List Tr := if w then l else byL l
mutual
def plnT : Tr → Tr
  | .rd i => .rd i
  | .nd w ts => .nd w (ordW w ((plnTs ts).flatMap (flat1 w)))
def plnTs : List Tr → List Tr
  | [] => []
  | t :: ts => plnT t :: plnTs ts
end
end L2.HW
namespace L2.HW
open PySem L2.HW.G
structure LdE (f g : Ld) : Prop where
  u : f.u = g.u
  v : f.v = g.v
  inn : f.inn.Perm g.inn
  rds : f.rds.Perm g.rds
theorem LdE.refl (f : Ld) : LdE f f := ⟨rfl, rfl, .refl _, .refl _⟩
theorem LdE.symm {f g : Ld} (h : LdE f g) : LdE g f := ⟨h.u.symm, h.v.symm, h.inn.symm, h.rds.symm⟩
theorem LdE.trans {f g k : Ld} (h : LdE f g) (j : LdE g k) : LdE f k := ⟨h.u.trans j.u, h.v.trans j.v, h.inn.trans j.inn, h.rds.trans j.rds⟩
def LqT (ps : List Pr) (t : Tr) (f : Ld) : Prop := ∃ f', Led ps t f' ∧ LdE f' f
end L2.HW
namespace L2.HW
open PySem L2.HW.G
structure Rgd (t t' : Tr) : Prop where
  wf : wf2 t'
  all : (allR t').Perm (allR t)
  lq : ∀ (ps : List Pr) (f : Ld), LqT ps t f → LqT ps t' f
  pl : (allR t).Nodup → plnT t' = plnT t
theorem Rgd.refl {t : Tr} (h : wf2 t) : Rgd t t := ⟨h, .refl _, fun _ _ h => h, fun _ => rfl⟩
theorem Rgd.trans {a b c : Tr} (h : Rgd a b) (k : Rgd b c) : Rgd a c :=
  ⟨k.wf, k.all.trans h.all, fun ps f x => k.lq ps f (h.lq ps f x), fun nd => (k.pl (h.all.nodup_iff.mpr nd)).trans (h.pl nd)⟩
end L2.HW
namespace L2.HW
open PySem PySem.Spec PyProof.Rows L2.HW.G
end L2.HW
namespace L2.HW
open PySem PySem.Spec PyProof.Rows L2.HW.G
end L2.HW
namespace L2.HW
open PySem PySem.Spec PyProof.Rows L2.HW.G
end L2.HW
namespace L2.HW
open PySem PySem.Spec PyProof.Rows L2.HW.G
end L2.HW
namespace L2.HW
open PySem PySem.Spec PyProof.Rows L2.HW.G
end L2.HW
namespace L2.HW
open PySem PySem.Spec PyProof.Rows L2.HW.G
end L2.HW
namespace L2.HW
open PySem PySem.Spec PyProof.Rows L2.HW.G
end L2.HW
namespace L2.HW
open PySem PySem.Spec PyProof.Rows L2.HW.G
end L2.HW
namespace L2.HW
open PySem PySem.Spec PyProof.Rows L2.HW.G
end L2.HW
namespace L2.HW
open PySem L2.HW.G
end L2.HW
namespace L2.HW
open PySem PySem.Spec PyProof.Rows L2.HW.G
end L2.HW
namespace L2.HW
open PySem PySem.Spec PyProof.Rows L2.HW.G
end L2.HW
namespace L2.HW
open PySem PySem.Spec PyProof.Rows
structure SameL (A B : Wb) : Prop where
  m : A.m = B.m
  b : A.b = B.b
  e : A.e = B.e
  rs : ∀ i : Nat, (A.rs[i]?).map (fun r => (r.u, r.v, r.l)) = (B.rs[i]?).map (fun r => (r.u, r.v, r.l))
theorem SameL.symm {A B : Wb} (s : SameL A B) : SameL B A := ⟨s.m.symm, s.b.symm, s.e.symm, fun i => (s.rs i).symm⟩
theorem SameL.at {A B : Wb} (s : SameL A B) {i : Nat} {r : Rd} (h : A.rs[i]? = some r) : ∃ q, B.rs[i]? = some q ∧ q.u = r.u ∧ q.v = r.v ∧ q.l = r.l := by
  have := s.rs i
  rw [h] at this
  cases e : B.rs[i]? with
  | none => rw [e] at this; cases this
  | some q =>
    rw [e] at this
    simp at this
    exact ⟨q, rfl, this.1.symm, this.2.1.symm, this.2.2.symm⟩
end L2.HW
namespace L2.HW
open PySem PySem.Spec PyProof.Rows
end L2.HW
namespace L2.HW
open PySem PySem.Spec PyProof.Rows
end L2.HW
namespace L2.HW
open PySem PySem.Spec PyProof.Rows
end L2.HW
namespace L2.HW
open PySem PySem.Spec PyProof.Rows
end L2.HW
namespace L2.HW
open PySem PySem.Spec PyProof.Rows
end L2.HW
namespace L2.HW
open PySem PySem.Spec PyProof.Rows
def Wb.two (W : Wb) (k : Nat) (r : Rd) : Wb := ⟨W.m + 1, W.b, W.e, W.rs.take k ++ [⟨r.u, W.m, 1, r.w⟩, ⟨W.m, r.v, r.l - 1, r.w⟩] ++ W.rs.drop (k + 1)⟩
end L2.HW
namespace L2.HW
open PySem PySem.Spec PyProof.Rows
end L2.HW
namespace L2.HW
open PySem PySem.Spec PyProof.Rows
end L2.HW
namespace L2.HW
open PySem PySem.Spec PyProof.Rows
end L2.HW
namespace L2.HW
open PySem PySem.Spec PyProof.Rows L2.HW.G
end L2.HW
namespace L2.HW
open PySem PySem.Spec PyProof.Rows L2.HW.G
end L2.HW
namespace L2.HW
open PySem PySem.Spec PyProof.Rows
end L2.HW
namespace L2.HW
open PySem PySem.Spec PyProof.Rows
end L2.HW
namespace L2.HW
open PySem PySem.Spec PyProof.Rows
end L2.HW
namespace L2.HW
open PySem PySem.Spec PyProof.Rows
end L2.HW
namespace L2.HW
open PySem PySem.Spec PyProof.Rows
abbrev ORow := Int × Option Int
def cl (x : Row) : ORow := (x.1, some x.2)
end L2.HW
namespace L2.HW
open PySem PySem.Spec PyProof.Rows
end L2.HW
namespace L2.HW
open PySem PySem.Spec PyProof.Rows
end L2.HW
namespace L2.HW
open PySem PySem.Spec PyProof.Rows
end L2.HW
namespace L2.HW
open PySem PySem.Spec PyProof.Rows
structure Sh45 where
  m : Int
  b : Int
  e : Int
  ps : List Pr
def Sh45.ok (x : Sh45) : Prop := ∃ top cnt, GoodS top cnt x.m x.b x.e x.ps ∧ top ≤ 70 ∧ cnt ≤ 9 ∧ (x.ps.length + 1) ^ x.m.toNat ≤ 16000000
end L2.HW
namespace L2.HW
open PySem PySem.Spec PyProof.Rows
end L2.HW
namespace L2.HW
open PySem PySem.Spec PyProof.Rows
end L2.HW
namespace L2.HW
open PySem PySem.Spec PyProof.Rows
end L2.HW
namespace L2.HW
open PySem PySem.Spec PyProof.Rows L2.HW.G
end L2.HW
namespace L2.HW
open PySem PySem.Spec PyProof.Rows L2.HW.G
end L2.HW
namespace L2.HW
open PySem PySem.Spec PyProof.Rows
end L2.HW
namespace L2.HW
open PySem PySem.Spec PyProof.Rows L2.HW.G
end L2.HW
namespace L2.HW
open PySem PySem.Spec PyProof.Rows L2.HW.G
end L2.HW
namespace L2.HW
open PySem PySem.Spec PyProof.Rows L2.HW.G
end L2.HW
namespace L2.HW
open PySem PySem.Spec PyProof.Rows L2.HW.G
end L2.HW
namespace L2.HW
open PySem PySem.Spec PyProof.Rows L2.HW.G
end L2.HW
namespace L2.HW
open PySem PySem.Spec PyProof.Rows L2.HW.G
end L2.HW
namespace L2.HW
open PySem PySem.Spec PyProof.Rows L2.HW.G
end L2.HW
namespace L2.HW
open PySem PySem.Spec PyProof.Rows L2.HW.G
end L2.HW
namespace L2.HW
open PySem PySem.Spec PyProof.Rows L2.HW.G
end L2.HW
namespace L2.HW
open PySem PySem.Spec PyProof.Rows L2.HW.G
end L2.HW
namespace L2.HW
open PySem PySem.Spec PyProof.Rows L2.HW.G
theorem GoodS.more {t c m b e : Int} {ps : List Pr} (g : GoodS t c m b e ps) : GoodS (t + 1) (c + 1) (m + 1) b e (ps ++ [(b, m)]) := by
  have h1 := g.m2; have h2 := g.mt; have h3 := g.b0; have h4 := g.b1; have h5 := g.e0; have h6 := g.e1; have h7 := g.be; have h8 := g.len
  refine ⟨by omega, by omega, h3, by omega, h5, by omega, h7, fun p hp => ?_, by simp; omega, ?_⟩
  · rcases List.mem_append.mp hp with hp | hp
    · obtain ⟨k1, k2, k3, k4, k5⟩ := g.rd p hp
      exact ⟨k1, by omega, k3, by omega, k5⟩
    · have : p = (b, m) := by simpa using hp
      subst this
      exact ⟨h3, by show b < m + 1; omega, by show 0 ≤ m; omega, by show m < m + 1; omega, h7⟩
  · obtain ⟨r, hr⟩ := g.acy
    refine ⟨fun x => if x = m then r b + 1 else r x, fun p hp => ?_⟩
    rcases List.mem_append.mp hp with hp | hp
    · obtain ⟨k1, k2, k3, k4, k5⟩ := g.rd p hp
      have := hr p hp
      show (if p.1 = m then r b + 1 else r p.1) < (if p.2 = m then r b + 1 else r p.2)
      rw [if_neg (by omega), if_neg (by omega)]
      exact this
    · have : p = (b, m) := by simpa using hp
      subst this
      show (if b = m then r b + 1 else r b) < (if m = m then r b + 1 else r m)
      rw [if_neg (by omega), if_pos rfl]
      omega
end L2.HW
namespace L2.HW
open PySem PySem.Spec PyProof.Rows L2.HW.G
end L2.HW
namespace L2.HW
open PySem PySem.Spec PyProof.Rows L2.HW.G
end L2.HW
namespace L2.HW
open PySem PySem.Spec PyProof.Rows L2.HW.G
abbrev t0 : Tr := .nd true [.nd false [.rd 0, .rd 1], .rd 2]
end L2.HW
namespace L2.HW
open PySem PySem.Spec PyProof.Rows L2.HW.G
end L2.HW
namespace L2.HW
open PySem PySem.Spec PyProof.Rows
end L2.HW
namespace L2.HW
open PySem PySem.Spec PyProof.Rows
@[simp] theorem getK (L g : LH) (k : Nat) : (L ++ g)[L.length + k]? = g[k]? := by rw [List.getElem?_append_right (by omega)]; simp
@[simp] theorem setK (L g : LH) (k : Nat) (o : Option Ob) : (L ++ g).set (L.length + k) o = L ++ g.set k o := by rw [List.set_append_right _ _ (by omega)]; simp
def badS (x : PyData) : Prop := fine x = true ∧ x.depth ≤ 6 ∧ x.bulk ≤ 100 ∧ shapeB x = false
instance (x : PyData) : Decidable (badS x) := by unfold badS; infer_instance
end L2.HW
namespace L2.HW
open PySem PySem.Spec PyProof.Rows L2.HW.G
end L2.HW
namespace L2.HW
open PySem PySem.Spec PyProof.Rows L2.HW.G
end L2.HW
namespace L2.HW
open PySem PySem.Spec PyProof.Rows L2.HW.G PySem.NumText
abbrev cpsL (w : Str) : List Nat := w.cps.toList
abbrev figS : Str := "0123456789"
def digB (c : Nat) : Bool := decide (c ∈ figS.cps.toList)
theorem figS_eq : figS.cps.toList = [48, 49, 50, 51, 52, 53, 54, 55, 56, 57] := by decide +kernel
theorem digB_iff (c : Nat) : digB c = true ↔ 48 ≤ c ∧ c ≤ 57 := by
  unfold digB
  rw [figS_eq]
  simp
  omega
def optI : Option Int → PyData
  | some n => .int n
  | none => .none
def numT (w : Str) : Option Int :=
  if w = "" ∨ 30 < w.length ∨ (cpsL w).all digB = false then none
  else if (cpsL w).head? = some 48 ∧ w ≠ "0" then none
  else some ((digitsVal (cpsL w) : Nat) : Int)
theorem cps_ne {w : Str} (h : w ≠ "") : cpsL w ≠ [] := fun z => h (by
  obtain ⟨⟨l⟩⟩ := w
  have : l = [] := z
  subst this
  rfl)
theorem alldig {w : Str} (h : (cpsL w).all digB = true) : AllDigits (cpsL w) := fun c hc => (digB_iff c).mp (List.all_eq_true.mp h c hc)
theorem intText_numT {w : Str} (h1 : w ≠ "") (h2 : ¬ 30 < w.length) (h3 : (cpsL w).all digB = true) : PySem.intText? w = some ((digitsVal (cpsL w) : Nat) : Int) := intText_digits (alldig h3) (cps_ne h1) (by omega)
theorem str_dec (a b : Str) : PyData.eqv (.str a) (.str b) = decide (a = b) := eqv_strD a b
theorem first_of {w : Str} (h : w ≠ "") (hl : w.length ≤ 1000000) (env : En) (i : Nat) (L : LH) (he : env[i]? = some (some (.d (.str w)))) : ∃ c, (cpsL w).head? = some c ∧ eOp opIx (eVar i) (eC (.int 0)) env L = .ok (.d (.str ⟨#[c]⟩)) L := by
  have zs := sizeLine_eq
  have hne := cps_ne h
  cases hc : cpsL w with
  | nil => exact absurd hc hne
  | cons c r =>
    refine ⟨c, rfl, ?_⟩
    have a0 : atI w.cps.toList 0 = some c := by rw [show w.cps.toList = c :: r from hc]; simp [atI, ixN]
    have k : w.length ≤ sizeLine := by omega
    have dg : Va.dget L (.d (.str w)) (.d (.int 0)) = none := rfl
    have sq : Va.seq L (.d (.str w)) = none := rfl
    rw [u_eOp, u_eVar, he]
    simp only [Res.bind_ok, u_eC, u_opIx, dg, sq, if_pos k, a0]
theorem one_eq (c d : Nat) : ((⟨#[c]⟩ : Str) = ⟨#[d]⟩) ↔ c = d := by
  constructor
  · intro h
    have : #[c] = #[d] := congrArg Str.cps h
    simpa using this
  · intro h; rw [h]
theorem zero_str : ("0" : Str) = ⟨#[48]⟩ := by decide +kernel
theorem in_fig (c : Nat) (env : En) (L : LH) (i : Nat) (he : env[i]? = some (some (.d (.str ⟨#[c]⟩)))) (neg : Bool) : eOp (opIn neg) (eVar i) (eC (.str figS)) env L = .ok (.d (.bool (if neg then !digB c else digB c))) L := by
  have dg : Va.dget L (.d (.str figS)) (.d (.str ⟨#[c]⟩)) = none := rfl
  have tl : (⟨#[c]⟩ : Str).cps.toList = [c] := rfl
  rw [u_eOp, u_eVar, he]
  simp only [Res.bind_ok, u_eC, u_opIn, dg, tl]
  rfl
theorem number_read_run (w : Str) (hl : w.length ≤ 1000000) (L : LH) : F_number_read [.d (.str w)] L = .ok (.d (optI (numT w))) L := by
  have zs := sizeLine_eq
  have hs : (signsV w) = (cpsL w).map fun c => Va.d (.str ⟨#[c]⟩) := rfl
  have hz : (cpsL w).length ≤ 1000000 := by rw [Array.length_toList]; exact hl
  have fc := fComp_tym (s := srcS (eVar 0)) (g := tN 1) (f := eOp (opIn false) (eVar 1) (eC (.str "0123456789"))) (vs := [1]) (env := [some (.d (.str w)), none]) (L := L) (fun c : Nat => Va.d (.str ⟨#[c]⟩)) (fun c => Va.d (.bool (digB c))) (cpsL w) (by simp [hs]) (by omega) (fun c _ => ⟨[some (.d (.str w)), some (.d (.str ⟨#[c]⟩))], rfl, in_fig c _ L 1 rfl false⟩)
  have al := cAll_ty (cpsL w) digB L
  have fcd : (cpsL w).map (fun c => Va.d (.bool (digB c))) = ((cpsL w).map fun c => PyData.bool (digB c)).map Va.d := by rw [List.map_map]; rfl
  have ca : eCallB cAll (aCons (eDat (fComp (srcS (eVar 0)) (tN 1) tTrue (eOp (opIn false) (eVar 1) (eC (.str "0123456789"))) [1])) aNil) [some (.d (.str w)), none] L = .ok (.d (.bool ((cpsL w).all digB))) L := by
    rw [u_eCallB, u_aCons, u_eDat, fc, fcd]
    simp only [Res.bind_ok, va_lst, u_aNil, al]
  have lz : w.length ≤ sizeLine := by omega
  refine fn_rt (L' := L) (x := optI (numT w)) rfl ?_
  show b_number_read [some (.d (.str w)), none] L = _
  have t1 : tVal (eOp opEq (eVar 0) (eC (.str ""))) [some (.d (.str w)), none] L = .ok (decide (w = "")) L := by
    simp [str_dec, str_ok]
  have t2 : tVal (eOp opGt (eCallB cLen (aCons (eVar 0) aNil)) (eC (.int 30))) [some (.d (.str w)), none] L = .ok (decide (30 < w.length)) L := by
    simp [lz]
    omega
  have t3 : tNotF (tVal (eCallB cAll (aCons (eDat (fComp (srcS (eVar 0)) (tN 1) tTrue (eOp (opIn false) (eVar 1) (eC (.str "0123456789"))) [1])) aNil))) [some (.d (.str w)), none] L = .ok (!(cpsL w).all digB) L := by
    rw [u_tNotF, u_tVal, ca]
    simp
  unfold b_number_read numT
  by_cases h1 : w = ""
  · refine seq_rt ?_
    rw [u_sIf, u_tOrF, t1]
    simp [h1, optI]
  · by_cases h2 : 30 < w.length
    · refine seq_rt ?_
      rw [u_sIf, u_tOrF, t1]
      simp only [Res.bind_ok, decide_eq_true_eq, h1, decide_false, Bool.false_eq_true, if_false]
      rw [u_tOrF, t2]
      simp [h2, optI]
    · cases h3 : (cpsL w).all digB with
      | false =>
        rw [h3] at t3
        refine seq_rt ?_
        rw [u_sIf, u_tOrF, t1]
        simp only [Res.bind_ok, decide_eq_true_eq, h1, decide_false, Bool.false_eq_true, if_false]
        rw [u_tOrF, t2]
        simp only [Res.bind_ok, decide_eq_true_eq, h2, decide_false, Bool.false_eq_true, if_false]
        rw [t3]
        simp [optI, h3]
      | true =>
        rw [h3] at t3
        refine seq_nx (env1 := [some (.d (.str w)), none]) (L1 := L) (by
          rw [u_sIf, u_tOrF, t1]
          simp only [Res.bind_ok, decide_eq_true_eq, h1, decide_false, Bool.false_eq_true, if_false]
          rw [u_tOrF, t2]
          simp only [Res.bind_ok, decide_eq_true_eq, h2, decide_false, Bool.false_eq_true, if_false]
          rw [t3]
          simp) ?_
        obtain ⟨c, hc, e0⟩ := first_of h1 hl [some (.d (.str w)), none] 0 L rfl
        have it := intText_numT h1 h2 h3
        have ci : eCallB cIntS (aCons (eVar 0) aNil) [some (.d (.str w)), none] L = .ok (.d (.int ((digitsVal (cpsL w) : Nat) : Int))) L := by
          have k6 : w.length ≤ 640 := by omega
          simp [it, k6]
        have f1 : tVal (eOp opEq (eOp opIx (eVar 0) (eC (.int 0))) (eC (.str "0"))) [some (.d (.str w)), none] L = .ok (decide (c = 48)) L := by
          rw [u_tVal, u_eOp, e0]
          have : decide ((⟨#[c]⟩ : Str) = "0") = decide (c = 48) := by rw [zero_str]; exact decide_eq_decide.mpr (one_eq c 48)
          simp [str_dec, str_ok, this]
        have f2 : tVal (eOp opNe (eVar 0) (eC (.str "0"))) [some (.d (.str w)), none] L = .ok (!decide (w = "0")) L := by
          simp [str_dec, str_ok]
        have cond : ¬ (w = "" ∨ 30 < w.length ∨ true = false) := by simp [h1, h2]
        rw [if_neg cond, hc]
        by_cases h4 : c = 48
        · by_cases h5 : w = "0"
          · rw [if_neg (by simp [h5])]
            rw [u_sRet, u_eIf, u_tAndF, f1]
            simp only [Res.bind_ok, decide_eq_true_eq, h4, if_true]
            rw [f2]
            simp only [Res.bind_ok, h5, decide_true, Bool.not_true, Bool.false_eq_true, if_false]
            rw [h5] at ci
            rw [ci]
            rfl
          · rw [if_pos ⟨by rw [h4], h5⟩]
            rw [u_sRet, u_eIf, u_tAndF, f1]
            simp only [Res.bind_ok, decide_eq_true_eq, h4, if_true]
            rw [f2]
            simp [h5, optI]
        · rw [if_neg (by simp [h4])]
          rw [u_sRet, u_eIf, u_tAndF, f1]
          simp only [Res.bind_ok, decide_eq_true_eq, h4, decide_false, Bool.false_eq_true, if_false]
          rw [ci]
          rfl
end L2.HW
namespace L2.HW
open PySem PySem.Spec PyProof.Rows L2.HW.G PySem.NumText TL
abbrev spS : Str := " "
abbrev nlS : Str := "\n"
theorem spS_tl : tl spS = [32] := by decide +kernel
theorem nlS_tl : tl nlS = [10] := by decide +kernel
theorem spl1_fact (c : Nat) : ∀ (l acc : List Nat), spl [c] 0 acc l ≠ [] ∧ (spl [c] 0 acc l).length ≤ l.length + 1 ∧ (∀ p ∈ spl [c] 0 acc l, p.length ≤ acc.length + l.length)
  | [], acc => by rw [spl_nil]; simp
  | d :: r, acc => by
    by_cases h : pre [c] (d :: r) = true
    · obtain ⟨a, b, e⟩ := spl1_fact c r []
      rw [spl_hit h]
      refine ⟨by simp, by simp only [List.length_cons] at *; exact Nat.succ_le_succ b, fun p hp => ?_⟩
      rcases List.mem_cons.mp hp with rfl | hp
      · omega
      · have := e p hp
        simp only [List.length_cons, List.length_nil] at *
        omega
    · obtain ⟨a, b, e⟩ := spl1_fact c r (acc ++ [d])
      rw [spl_miss (Bool.eq_false_iff.mpr h)]
      refine ⟨a, by simp only [List.length_cons]; omega, fun p hp => ?_⟩
      have := e p hp
      simp only [List.length_append, List.length_cons, List.length_nil] at *
      omega
theorem split_fact {y : Str} {c : Nat} (hy : tl y = [c]) (hc : y.cps.all (· < 256) = true) (x : Str) : Txt.split x y ≠ [] ∧ (Txt.split x y).length ≤ x.length + 1 ∧ ∀ p ∈ Txt.split x y, p.length ≤ x.length := by
  have e := split_spl x y (by rw [hy]; simp) (TL.kind_ok hc)
  rw [hy] at e
  obtain ⟨a, b, d⟩ := spl1_fact c (tl x) []
  rw [← e] at a b d
  refine ⟨fun z => a (by rw [z]; rfl), ?_, fun p hp => ?_⟩
  · rw [List.length_map] at b
    rw [len_tl x]
    exact b
  · have := d (tl p) (List.mem_map.mpr ⟨p, hp, rfl⟩)
    rw [len_tl p, len_tl x]
    simpa using this
theorem split_sp (x : Str) : Txt.split x spS ≠ [] ∧ (Txt.split x spS).length ≤ x.length + 1 ∧ ∀ p ∈ Txt.split x spS, p.length ≤ x.length := split_fact spS_tl (by decide +kernel) x
theorem split_nl (x : Str) : Txt.split x nlS ≠ [] ∧ (Txt.split x nlS).length ≤ x.length + 1 ∧ ∀ p ∈ Txt.split x nlS, p.length ≤ x.length := split_fact nlS_tl (by decide +kernel) x
theorem digitsVal_lt : ∀ cs : List Nat, AllDigits cs → digitsVal cs < 10 ^ cs.length := by
  have go : ∀ (cs : List Nat) (a : Nat), AllDigits cs → cs.foldl (fun acc c => acc * 10 + (c - 48)) a < (a + 1) * 10 ^ cs.length := by
    intro cs
    induction cs with
    | nil => intro a _; simp
    | cons c cs ih =>
      intro a h
      have h1 := h.head
      have := ih (a * 10 + (c - 48)) h.tail
      rw [List.foldl_cons, List.length_cons, Nat.pow_succ]
      have e : (a * 10 + (c - 48) + 1) * 10 ^ cs.length ≤ (a * 10 + 10) * 10 ^ cs.length := Nat.mul_le_mul_right _ (by omega)
      have e2 : (a * 10 + 10) * 10 ^ cs.length = (a + 1) * (10 ^ cs.length * 10) := by
        rw [show a * 10 + 10 = (a + 1) * 10 by omega, Nat.mul_assoc, Nat.mul_comm 10]
      omega
  intro cs h
  have := go cs 0 h
  simpa [digitsVal] using this
theorem numT_bound {w : Str} {n : Int} (h : numT w = some n) : 0 ≤ n ∧ n < 10 ^ 30 := by
  unfold numT at h
  split at h
  · cases h
  · rename_i hc
    split at h
    · cases h
    · cases h
      refine ⟨Int.natCast_nonneg _, ?_⟩
      have h3 : (cpsL w).all digB = true := by
        cases e : (cpsL w).all digB with
        | true => rfl
        | false => exact absurd (.inr (.inr e)) hc
      have h2 : w.length ≤ 30 := by
        have : ¬ 30 < w.length := fun z => hc (.inr (.inl z))
        omega
      have := digitsVal_lt _ (alldig h3)
      have l : (cpsL w).length ≤ 30 := by rw [Array.length_toList]; exact h2
      have : (10 : Nat) ^ (cpsL w).length ≤ 10 ^ 30 := Nat.pow_le_pow_right (by decide) l
      have e : ((10 : Int) ^ 30) = ((10 ^ 30 : Nat) : Int) := by decide +kernel
      rw [e]
      omega
theorem fine_num {n : Int} (h : 0 ≤ n ∧ n < 10 ^ 30) : fine (.int n) = true := by
  have h2 : n.natAbs.log2 < 1920 := by
    by_cases z : n.natAbs = 0
    · rw [z]; decide
    · have e : ((10 : Int) ^ 30) = ((10 ^ 30 : Nat) : Int) := by decide +kernel
      rw [e] at h
      have b : n.natAbs < 10 ^ 30 := by omega
      have c : (10 : Nat) ^ 30 < 2 ^ 100 := by decide +kernel
      have := (Nat.log2_lt z).mpr (Nat.lt_trans b c)
      omega
  simp [fine, h2]
theorem fine_optI (w : Str) : fine (optI (numT w)) = true := by
  cases h : numT w with
  | none => rfl
  | some n => exact fine_num (numT_bound h)
def rowT (line word : Str) (size : Nat) : Option (List Int) :=
  if (Txt.split line spS).headD "" = word ∧ (Txt.split line spS).tail.length = size then allO ((Txt.split line spS).tail.map numT) else none
def optT : Option (List Int) → PyData
  | some ns => .tuple (ns.map PyData.int)
  | none => .none
theorem none_opts (os : List (Option Int)) : ((os.map optI).any fun z => PyData.eqv z .none) = !(allO os).isSome := by
  induction os with
  | nil => rfl
  | cons o os ih =>
    rw [List.map_cons, List.any_cons, ih]
    cases o with
    | none => simp [optI, PyData.eqv, allO]
    | some n =>
      have : PyData.eqv (.int n) .none = false := by simp [PyData.eqv]
      simp only [optI, this, Bool.false_or, allO]
      cases allO os <;> rfl
theorem shaped_opts (ws : List Str) : SeqAt.shaped (.list ((ws.map numT).map optI)) = true := by
  refine shaped_of ?_ ?_
  · simp only [fine]
    refine fineAll_iff.mpr fun x hx => ?_
    rw [List.map_map] at hx
    obtain ⟨w, _, rfl⟩ := List.mem_map.mp hx
    exact fine_optI w
  · have : PyData.depthAll ((ws.map numT).map optI) ≤ 0 := depthAll_le.mpr fun x hx => by
      obtain ⟨o, _, rfl⟩ := List.mem_map.mp hx
      cases o <;> simp [optI, PyData.depth]
    simp only [PyData.depth]
    omega
theorem opts_eq {os : List (Option Int)} {ns : List Int} (h : allO os = some ns) : os.map optI = ns.map PyData.int := by
  rw [allO_iff.mp h, List.map_map]
  rfl
end L2.HW
namespace L2.HW
open PySem PySem.Spec PyProof.Rows L2.HW.G PySem.NumText TL
theorem one_in_fig (c : Nat) (env : En) (L : LH) (he : env[1]? = some (some (.d (.str ⟨#[c]⟩)))) : tVal (eOp (opIn true) (eVar 1) (eC (.str "0123456789"))) env L = .ok (!digB c) L := by
  have := in_fig c env L 1 he true
  rw [u_tVal, this]
  simp
theorem shaped_strs {xs : List PyData} (h : ∀ x ∈ xs, ∃ s : Str, x = .str s ∧ PyData.strOk s = true) : SeqAt.shaped (.list xs) = true := by
  refine shaped_of ?_ ?_
  · simp only [fine]
    refine fineAll_iff.mpr fun x hx => ?_
    obtain ⟨s, rfl, hs⟩ := h x hx
    exact hs
  · have : PyData.depthAll xs ≤ 0 := depthAll_le.mpr fun x hx => by
      obtain ⟨s, rfl, _⟩ := h x hx
      simp [PyData.depth]
    simp only [PyData.depth]
    omega
theorem strOk_one {w : Str} (h : PyData.strOk w = true) {c : Nat} (hc : c ∈ cpsL w) : PyData.strOk ⟨#[c]⟩ = true := by
  unfold PyData.strOk at *
  rw [Array.all_eq_true_iff_forall_mem] at h
  have := h c (by simpa using hc)
  simpa using this
theorem l_number_of_run (w : Str) (hl : w.length ≤ 1000000) (hk : PyData.strOk w = true) (L : LH) : F_l_number_of [.d (.str w)] L = .ok (.d (optI (numT w))) L := by
  have zs := sizeLine_eq
  have hs : (signsV w) = (cpsL w).map fun c => Va.d (.str ⟨#[c]⟩) := rfl
  have hz : (cpsL w).length ≤ 1000000 := by rw [Array.length_toList]; exact hl
  have hs2 : signsV w = ((cpsL w).map fun c => PyData.str ⟨#[c]⟩).map Va.d := by rw [hs, List.map_map]; rfl
  obtain ⟨P, hP⟩ : ∃ P : PyData → Bool, P = fun x => match x with
    | .str s => !(s.cps.toList.all digB)
    | _ => false := ⟨_, rfl⟩
  have fc := fComp_filter (s := srcS (eVar 0)) (g := tN 1) (t := tVal (eOp (opIn true) (eVar 1) (eC (.str "0123456789")))) (f := eVar 1) (vs := [1]) (env := [some (.d (.str w)), none]) (L := L) (xs := (cpsL w).map fun c => PyData.str ⟨#[c]⟩) P (by simp only [u_srcS, u_eVar, List.getElem?_cons_zero, Res.bind_ok, hs2]) (by rw [List.length_map]; omega) (fun x hx => by
    obtain ⟨c, _, rfl⟩ := List.mem_map.mp hx
    refine ⟨[some (.d (.str w)), some (.d (.str ⟨#[c]⟩))], rfl, ?_, rfl⟩
    rw [one_in_fig c _ L rfl, hP]
    simp)
  have fl : (((cpsL w).map fun c => PyData.str ⟨#[c]⟩).filter P = []) ↔ (cpsL w).all digB = true := by
    rw [List.filter_eq_nil_iff, List.all_eq_true]
    constructor
    · intro h c hc
      have := h _ (List.mem_map.mpr ⟨c, hc, rfl⟩)
      rw [hP] at this
      simpa using this
    · intro h x hx
      obtain ⟨c, hc, rfl⟩ := List.mem_map.mp hx
      rw [hP]
      simp [h c hc]
  generalize hF : ((cpsL w).map fun c => PyData.str ⟨#[c]⟩).filter P = F at *
  have cmpF : cmpOk (.list F) (.list []) = true := by
    refine cmpOk_of (shaped_strs ?_) (by decide)
    rw [← hF]
    intro x hx
    obtain ⟨c, hc, rfl⟩ := List.mem_map.mp (List.mem_filter.mp hx).1
    exact ⟨_, rfl, strOk_one hk hc⟩
  have lz : w.length ≤ sizeLine := by omega
  refine fn_rt (L' := L) (x := optI (numT w)) rfl ?_
  show b_l_number_of [some (.d (.str w)), none] L = _
  have t1 : tVal (eOp opEq (eVar 0) (eC (.str ""))) [some (.d (.str w)), none] L = .ok (decide (w = "")) L := by
    simp [str_dec, str_ok]
  have t2 : tVal (eOp opGt (eCallB cLen (aCons (eVar 0) aNil)) (eC (.int 30))) [some (.d (.str w)), none] L = .ok (decide (30 < w.length)) L := by
    simp [lz]
    omega
  have t3 : tVal (eOp opNe (eDat (fComp (srcS (eVar 0)) (tN 1) (tVal (eOp (opIn true) (eVar 1) (eC (.str "0123456789")))) (eVar 1) [1])) (eDat (fLst aNil))) [some (.d (.str w)), none] L = .ok (!(cpsL w).all digB) L := by
    have em : F.isEmpty = (cpsL w).all digB := by
      rw [Bool.eq_iff_iff, List.isEmpty_iff]
      exact fl
    have k0 : 0 ≤ sizeLine := Nat.zero_le _
    rw [u_tVal, u_eOp, u_eDat, fc]
    simp only [Res.bind_ok, va_lst, u_eDat, u_fLst, u_aNil, List.length_nil, if_pos k0]
    have v0 : (Ob.lst ([] : List Va)).va = some (.d (.list [])) := rfl
    simp only [v0, Res.bind_ok, u_opNe, Va.data, cmpF, if_true, eqv_nil, em]
  unfold b_l_number_of numT
  by_cases h1 : w = ""
  · refine seq_rt ?_
    rw [u_sIf, u_tOrF, t1]
    simp [h1, optI]
  · cases h3 : (cpsL w).all digB with
    | false =>
      rw [h3] at t3
      refine seq_rt ?_
      rw [u_sIf, u_tOrF, t1]
      simp only [Res.bind_ok, decide_eq_true_eq, h1, decide_false, Bool.false_eq_true, if_false]
      rw [u_tOrF, t3]
      simp [optI]
    | true =>
      rw [h3] at t3
      by_cases h2 : 30 < w.length
      · refine seq_rt ?_
        rw [u_sIf, u_tOrF, t1]
        simp only [Res.bind_ok, decide_eq_true_eq, h1, decide_false, Bool.false_eq_true, if_false]
        rw [u_tOrF, t3]
        simp only [Res.bind_ok, Bool.not_true, Bool.false_eq_true, if_false]
        rw [t2]
        simp [h2, optI]
      · refine seq_nx (env1 := [some (.d (.str w)), none]) (L1 := L) (by
          rw [u_sIf, u_tOrF, t1]
          simp only [Res.bind_ok, decide_eq_true_eq, h1, decide_false, Bool.false_eq_true, if_false]
          rw [u_tOrF, t3]
          simp only [Res.bind_ok, Bool.not_true, Bool.false_eq_true, if_false]
          rw [t2]
          simp [h2]) ?_
        obtain ⟨c, hc, e0⟩ := first_of h1 hl [some (.d (.str w)), none] 0 L rfl
        have it := intText_numT h1 h2 h3
        have ci : eCallB cIntS (aCons (eVar 0) aNil) [some (.d (.str w)), none] L = .ok (.d (.int ((digitsVal (cpsL w) : Nat) : Int))) L := by
          have k6 : w.length ≤ 640 := by omega
          simp [it, k6]
        have f1 : tVal (eOp opEq (eOp opIx (eVar 0) (eC (.int 0))) (eC (.str "0"))) [some (.d (.str w)), none] L = .ok (decide (c = 48)) L := by
          rw [u_tVal, u_eOp, e0]
          have : decide ((⟨#[c]⟩ : Str) = "0") = decide (c = 48) := by rw [zero_str]; exact decide_eq_decide.mpr (one_eq c 48)
          simp [str_dec, str_ok, this]
        have f2 : tVal (eOp opNe (eVar 0) (eC (.str "0"))) [some (.d (.str w)), none] L = .ok (!decide (w = "0")) L := by
          simp [str_dec, str_ok]
        have cond : ¬ (w = "" ∨ 30 < w.length ∨ true = false) := by simp [h1, h2]
        rw [if_neg cond, hc]
        by_cases h4 : c = 48
        · by_cases h5 : w = "0"
          · rw [if_neg (by simp [h5])]
            refine seq_nx (env1 := [some (.d (.str w)), none]) (L1 := L) (by
              rw [u_sIf, u_tAndF, f1]
              simp only [Res.bind_ok, decide_eq_true_eq, h4, if_true]
              rw [f2]
              simp [h5]) ?_
            rw [u_sRet, ci]
            rfl
          · rw [if_pos ⟨by rw [h4], h5⟩]
            refine seq_rt ?_
            rw [u_sIf, u_tAndF, f1]
            simp only [Res.bind_ok, decide_eq_true_eq, h4, if_true]
            rw [f2]
            simp [h5, optI]
        · rw [if_neg (by simp [h4])]
          refine seq_nx (env1 := [some (.d (.str w)), none]) (L1 := L) (by
            rw [u_sIf, u_tAndF, f1]
            simp [h4]) ?_
          rw [u_sRet, ci]
          rfl
end L2.HW
namespace L2.HW
open PySem PySem.Spec PyProof.Rows L2.HW.G PySem.NumText TL
theorem cut_from {α : Type} (xs : List α) (i : Nat) : cutA xs (some (i : Int)) none = xs.drop i := by
  unfold cutA
  rw [HT.sIx_nat, HT.sIx_none]
  by_cases h : i ≤ xs.length
  · rw [Nat.min_eq_left h, List.take_of_length_le (by rw [List.length_drop]; omega)]
  · rw [List.drop_eq_nil_of_le (by omega : xs.length ≤ min i xs.length), List.drop_eq_nil_of_le (by omega : xs.length ≤ i)]
    simp
theorem cut_to {α : Type} (xs : List α) (i : Nat) : cutA xs none (some (i : Int)) = xs.take i := by
  unfold cutA
  rw [HT.sIx_nat, HT.sIx_none, Nat.sub_zero, List.drop_zero]
  by_cases h : i ≤ xs.length
  · rw [Nat.min_eq_left h]
  · rw [Nat.min_eq_right (by omega), List.take_of_length_le (Nat.le_refl _), List.take_of_length_le (by omega)]
theorem sl_from {f : EF} {xs : List PyData} {env : En} {L : LH} (i : Nat) (h : f env L = .ok (.d (.list xs)) L) : eSl f (pSome (eC (.int (i : Int)))) pNone env L = .ok (.d (.list (xs.drop i))) L := by
  have c : cutA (xs.map Va.d) (some (i : Int)) none = (xs.drop i).map Va.d := by rw [cut_from, List.map_drop]
  have d : datas ((xs.drop i).map Va.d) = some (xs.drop i) := datas_map _
  have so : pSome (eC (.int (i : Int))) env L = .ok (some (i : Int)) L := by simp
  have sn : pNone env L = .ok none L := by simp
  have op : opSl (.d (.list xs)) (some (i : Int)) none L = .ok (.d (.list (xs.drop i))) L := by
    show (match datas (cutA (xs.map Va.d) (some (i : Int)) none) with
      | some ys => Res.ok (Va.d (.list ys)) L
      | none => .stuck) = _
    rw [c, d]
  unfold eSl
  rw [h]
  simp only [Res.bind_ok, so, sn, op]
theorem sl_to {f : EF} {xs : List PyData} {env : En} {L : LH} (i : Nat) {g : EF} (h : f env L = .ok (.d (.list xs)) L) (hg : g env L = .ok (.d (.int (i : Int))) L) : eSl f pNone (pSome g) env L = .ok (.d (.list (xs.take i))) L := by
  have c : cutA (xs.map Va.d) none (some (i : Int)) = (xs.take i).map Va.d := by rw [cut_to, List.map_take]
  have d : datas ((xs.take i).map Va.d) = some (xs.take i) := datas_map _
  have so : pSome g env L = .ok (some (i : Int)) L := by simp [hg]
  have sn : pNone env L = .ok none L := by simp
  have op : opSl (.d (.list xs)) none (some (i : Int)) L = .ok (.d (.list (xs.take i))) L := by
    show (match datas (cutA (xs.map Va.d) none (some (i : Int))) with
      | some ys => Res.ok (Va.d (.list ys)) L
      | none => .stuck) = _
    rw [c, d]
  unfold eSl
  rw [h]
  simp only [Res.bind_ok, so, sn, op]
theorem split_ev {i : Nat} {x m : Str} {env : En} {L : LH} (he : env[i]? = some (some (.d (.str x)))) (hm : (m.length == 0) = false) (hx : x.length ≤ 1000000) : eDat (fSplit (eVar i) (eC (.str m))) env L = .ok (.d (.list ((Txt.split x m).map PyData.str))) L := by
  have zs := sizeLine_eq
  have k : (m.length == 0) = false ∧ x.length + 2 ≤ sizeLine := ⟨hm, by omega⟩
  rw [u_eDat, u_fSplit, u_eVar, he]
  simp only [Res.bind_ok, u_eC, if_pos k, va_lst]
theorem sp_len : (spS.length == 0) = false := by decide +kernel
theorem nl_len : (nlS.length == 0) = false := by decide +kernel
theorem strOk_iff {w : Str} : PyData.strOk w = true ↔ ∀ c ∈ tl w, c < 0x110000 := by
  unfold PyData.strOk
  rw [← Array.all_toList, List.all_eq_true]
  simp
theorem mem_joinL {S : List Nat} : ∀ {ps : List (List Nat)} {p : List Nat} {c : Nat}, p ∈ ps → c ∈ p → c ∈ joinL S ps
  | [a], p, c, hp, hc => by
    rw [List.mem_singleton.mp hp] at hc
    exact hc
  | a :: b :: r, p, c, hp, hc => by
    show c ∈ a ++ (S ++ joinL S (b :: r))
    rcases List.mem_cons.mp hp with rfl | hp
    · exact List.mem_append_left _ hc
    · exact List.mem_append_right _ (List.mem_append_right _ (mem_joinL hp hc))
theorem strOk_part {x y p : Str} (h : PyData.strOk x = true) (hp : p ∈ Txt.split x y) : PyData.strOk p = true := by
  rw [strOk_iff] at h ⊢
  intro c hc
  refine h c ?_
  have e := PySem.StrLaws.join_split x y
  rw [← e, tl_join]
  exact mem_joinL (List.mem_map.mpr ⟨p, hp, rfl⟩) hc
theorem row_parts (line : Str) : ∃ w0 r, Txt.split line spS = w0 :: r ∧ w0.length ≤ line.length ∧ r.length ≤ line.length ∧ ∀ w ∈ r, w.length ≤ line.length := by
  obtain ⟨a, b, c⟩ := split_sp line
  cases h : Txt.split line spS with
  | nil => exact absurd h a
  | cons w0 r =>
    rw [h] at b c
    exact ⟨w0, r, rfl, c w0 List.mem_cons_self, by simp only [List.length_cons] at b; omega, fun w hw => c w (List.mem_cons_of_mem _ hw)⟩
theorem row_read_run (line word : Str) (size : Nat) (hl : line.length ≤ 1000000) (hs : size ≤ 1000) (L : LH) : F_row_read [.d (.str line), .d (.str word), .d (.int (size : Int))] L = .ok (.d (optT (rowT line word size))) L := by
  have zs := sizeLine_eq
  obtain ⟨w0, r, hw, l0, lr, lw⟩ := row_parts line
  have s3 : sSet 3 (eDat (fSplit (eVar 0) (eC (.str " ")))) [some (.d (.str line)), some (.d (.str word)), some (.d (.int (size : Int))), none, none, none] L = .nx [some (.d (.str line)), some (.d (.str word)), some (.d (.int (size : Int))), some (.d (.list ((w0 :: r).map PyData.str))), none, none] L := by
    have := split_ev (i := 0) (x := line) (m := spS) (env := [some (.d (.str line)), some (.d (.str word)), some (.d (.int (size : Int))), none, none, none]) (L := L) rfl sp_len hl
    rw [hw] at this
    rw [u_sSet, this]
    rfl
  have fc := fComp_map (s := srcV (eSl (eVar 3) (pSome (eC (.int 1))) pNone)) (g := tN 5) (f := eCall F_number_read (aCons (eVar 5) aNil)) (vs := [5]) (env := [some (.d (.str line)), some (.d (.str word)), some (.d (.int (size : Int))), some (.d (.list ((w0 :: r).map PyData.str))), none, none]) (L := L) (xs := r.map PyData.str) (fun x => match x with
    | .str w => optI (numT w)
    | _ => .none) (by
      have := sl_from (f := eVar 3) (xs := (w0 :: r).map PyData.str) (env := [some (.d (.str line)), some (.d (.str word)), some (.d (.int (size : Int))), some (.d (.list ((w0 :: r).map PyData.str))), none, none]) (L := L) 1 rfl
      rw [u_srcV]
      erw [this]
      rfl) (by rw [List.length_map]; omega) (fun x hx => by
      obtain ⟨w, hw', rfl⟩ := List.mem_map.mp hx
      have nr := number_read_run w (by have := lw w hw'; omega) L
      generalize (w0 :: r).map PyData.str = R
      exact ⟨[some (.d (.str line)), some (.d (.str word)), some (.d (.int (size : Int))), some (.d (.list R)), none, some (.d (.str w))], rfl, by simp [nr]⟩)
  have em : (r.map PyData.str).map (fun x => match x with
    | .str w => optI (numT w)
    | _ => .none) = (r.map numT).map optI := by rw [List.map_map, List.map_map]; rfl
  rw [em] at fc
  have rT : rowT line word size = if w0 = word ∧ r.length = size then allO (r.map numT) else none := by
    unfold rowT
    rw [hw]
    rfl
  have sh := shaped_opts r
  have no := none_opts (r.map numT)
  have ol : ((r.map numT).map optI).length = r.length := by simp
  refine fn_rt (L' := L) (x := optT (rowT line word size)) rfl ?_
  show b_row_read [some (.d (.str line)), some (.d (.str word)), some (.d (.int (size : Int))), none, none, none] L = _
  unfold b_row_read
  refine seq_nx s3 ?_
  refine seq_nx (env1 := [some (.d (.str line)), some (.d (.str word)), some (.d (.int (size : Int))), some (.d (.list ((w0 :: r).map PyData.str))), some (.d (.list ((r.map numT).map optI))), none]) (L1 := L) (by
    rw [u_sSet, u_eDat, fc]
    simp only [Res.bind_ok, va_lst, then_ok]
    rfl) ?_
  have sn : SeqAt.shaped .none = true := by simp [SeqAt.shaped, PyData.canLay0, PyData.depth]
  have op : ∀ ns, allO (r.map numT) = some ns → (r.map numT).map optI = ns.map PyData.int := fun ns h => opts_eq h
  rw [rT]
  have f1 : tVal (eOp opEq (eOp opIx (eVar 3) (eC (.int 0))) (eVar 1)) [some (.d (.str line)), some (.d (.str word)), some (.d (.int (size : Int))), some (.d (.list ((w0 :: r).map PyData.str))), some (.d (.list ((r.map numT).map optI))), none] L = .ok (decide (w0 = word)) L := by
    have e0 : eOp opIx (eVar 3) (eC (.int 0)) [some (.d (.str line)), some (.d (.str word)), some (.d (.int (size : Int))), some (.d (.list ((w0 :: r).map PyData.str))), some (.d (.list ((r.map numT).map optI))), none] L = .ok (.d (.str w0)) L := by
      have a0 : atI (((w0 :: r).map PyData.str).map Va.d) 0 = some (.d (.str w0)) := by simp [atI, ixN]
      rw [u_eOp, u_eVar]
      simp only [List.getElem?_cons_succ, List.getElem?_cons_zero, Res.bind_ok, u_eC, u_opIx, dget_d, seq_list, a0]
    rw [u_tVal, u_eOp, e0]
    simp [str_dec, str_ok]
  have f2 : tVal (eOp opEq (eCallB cLen (aCons (eVar 4) aNil)) (eVar 2)) [some (.d (.str line)), some (.d (.str word)), some (.d (.int (size : Int))), some (.d (.list ((w0 :: r).map PyData.str))), some (.d (.list ((r.map numT).map optI))), none] L = .ok (decide (r.length = size)) L := by
    generalize (w0 :: r).map PyData.str = A
    rw [← ol]
    generalize (r.map numT).map optI = B
    have : decide ((B.length : Int) = (size : Int)) = decide (B.length = size) := decide_eq_decide.mpr (by omega)
    simp [eqv_int, this]
  have f3 : tVal (eOp (opIn true) (eC .none) (eVar 4)) [some (.d (.str line)), some (.d (.str word)), some (.d (.int (size : Int))), some (.d (.list ((w0 :: r).map PyData.str))), some (.d (.list ((r.map numT).map optI))), none] L = .ok (allO (r.map numT)).isSome L := by
    generalize (w0 :: r).map PyData.str = A
    rw [u_tVal, u_eOp, u_eC]
    simp only [Res.bind_ok, u_eVar, List.getElem?_cons_succ, List.getElem?_cons_zero, u_opIn, dget_d, Va.data, sh, sn, Bool.and_self, if_true, no, Bool.not_not]
  have f4 : ∀ ns, allO (r.map numT) = some ns → eCallB cTuple (aCons (eVar 4) aNil) [some (.d (.str line)), some (.d (.str word)), some (.d (.int (size : Int))), some (.d (.list ((w0 :: r).map PyData.str))), some (.d (.list ((r.map numT).map optI))), none] L = .ok (.d (.tuple (ns.map PyData.int))) L := fun ns h => by
    rw [op ns h]
    generalize (w0 :: r).map PyData.str = A
    simp
  obtain ⟨E, hE⟩ : ∃ E : En, E = [some (.d (.str line)), some (.d (.str word)), some (.d (.int (size : Int))), some (.d (.list ((w0 :: r).map PyData.str))), some (.d (.list ((r.map numT).map optI))), none] := ⟨_, rfl⟩
  rw [← hE] at f1 f2 f3 f4 ⊢
  rw [u_sRet, u_eIf, u_tAndF, f1]
  by_cases c1 : w0 = word
  · simp only [Res.bind_ok, decide_eq_true_eq, c1, if_true]
    rw [u_tAndF, f2]
    by_cases c2 : r.length = size
    · simp only [Res.bind_ok, decide_eq_true_eq, c2, if_true]
      rw [f3]
      cases h : allO (r.map numT) with
      | none => simp [optT]
      | some ns =>
        simp only [Option.isSome_some, Res.bind_ok, if_true]
        rw [f4 ns h]
        rfl
    · simp [c2, optT]
  · simp [c1, optT]
end L2.HW
namespace L2.HW
open PySem PySem.Spec PyProof.Rows L2.HW.G PySem.NumText TL
theorem l_row_of_run (line word : Str) (size : Nat) (hl : line.length ≤ 1000000) (hk : PyData.strOk line = true) (hs : size ≤ 1000) (L : LH) : F_l_row_of [.d (.str line), .d (.str word), .d (.int (size : Int))] L = .ok (.d (optT (rowT line word size))) L := by
  have zs := sizeLine_eq
  obtain ⟨w0, r, hw, l0, lr, lw⟩ := row_parts line
  have s3 : sSet 3 (eDat (fSplit (eVar 0) (eC (.str " ")))) [some (.d (.str line)), some (.d (.str word)), some (.d (.int (size : Int))), none, none, none] L = .nx [some (.d (.str line)), some (.d (.str word)), some (.d (.int (size : Int))), some (.d (.list ((w0 :: r).map PyData.str))), none, none] L := by
    have := split_ev (i := 0) (x := line) (m := spS) (env := [some (.d (.str line)), some (.d (.str word)), some (.d (.int (size : Int))), none, none, none]) (L := L) rfl sp_len hl
    rw [hw] at this
    rw [u_sSet, this]
    rfl
  have fc := fComp_map (s := srcV (eSl (eVar 3) (pSome (eC (.int 1))) pNone)) (g := tN 5) (f := eCall F_l_number_of (aCons (eVar 5) aNil)) (vs := [5]) (env := [some (.d (.str line)), some (.d (.str word)), some (.d (.int (size : Int))), some (.d (.list ((w0 :: r).map PyData.str))), none, none]) (L := L) (xs := r.map PyData.str) (fun x => match x with
    | .str w => optI (numT w)
    | _ => .none) (by
      have := sl_from (f := eVar 3) (xs := (w0 :: r).map PyData.str) (env := [some (.d (.str line)), some (.d (.str word)), some (.d (.int (size : Int))), some (.d (.list ((w0 :: r).map PyData.str))), none, none]) (L := L) 1 rfl
      rw [u_srcV]
      erw [this]
      rfl) (by rw [List.length_map]; omega) (fun x hx => by
      obtain ⟨w, hw', rfl⟩ := List.mem_map.mp hx
      have nr := l_number_of_run w (by have := lw w hw'; omega) (strOk_part hk (by rw [hw]; exact List.mem_cons_of_mem _ hw')) L
      generalize (w0 :: r).map PyData.str = R
      exact ⟨[some (.d (.str line)), some (.d (.str word)), some (.d (.int (size : Int))), some (.d (.list R)), none, some (.d (.str w))], rfl, by simp [nr]⟩)
  have em : (r.map PyData.str).map (fun x => match x with
    | .str w => optI (numT w)
    | _ => .none) = (r.map numT).map optI := by rw [List.map_map, List.map_map]; rfl
  rw [em] at fc
  have rT : rowT line word size = if w0 = word ∧ r.length = size then allO (r.map numT) else none := by
    unfold rowT
    rw [hw]
    rfl
  have sh := shaped_opts r
  have no := none_opts (r.map numT)
  have ol : ((r.map numT).map optI).length = r.length := by simp
  refine fn_rt (L' := L) (x := optT (rowT line word size)) rfl ?_
  show b_l_row_of [some (.d (.str line)), some (.d (.str word)), some (.d (.int (size : Int))), none, none, none] L = _
  unfold b_l_row_of
  refine seq_nx s3 ?_
  refine seq_nx (env1 := [some (.d (.str line)), some (.d (.str word)), some (.d (.int (size : Int))), some (.d (.list ((w0 :: r).map PyData.str))), some (.d (.list ((r.map numT).map optI))), none]) (L1 := L) (by
    rw [u_sSet, u_eDat, fc]
    simp only [Res.bind_ok, va_lst, then_ok]
    rfl) ?_
  have sn : SeqAt.shaped .none = true := by simp [SeqAt.shaped, PyData.canLay0, PyData.depth]
  have op : ∀ ns, allO (r.map numT) = some ns → (r.map numT).map optI = ns.map PyData.int := fun ns h => opts_eq h
  rw [rT]
  have f1 : tVal (eOp opNe (eOp opIx (eVar 3) (eC (.int 0))) (eVar 1)) [some (.d (.str line)), some (.d (.str word)), some (.d (.int (size : Int))), some (.d (.list ((w0 :: r).map PyData.str))), some (.d (.list ((r.map numT).map optI))), none] L = .ok (!decide (w0 = word)) L := by
    have e0 : eOp opIx (eVar 3) (eC (.int 0)) [some (.d (.str line)), some (.d (.str word)), some (.d (.int (size : Int))), some (.d (.list ((w0 :: r).map PyData.str))), some (.d (.list ((r.map numT).map optI))), none] L = .ok (.d (.str w0)) L := by
      have a0 : atI (((w0 :: r).map PyData.str).map Va.d) 0 = some (.d (.str w0)) := by simp [atI, ixN]
      rw [u_eOp, u_eVar]
      simp only [List.getElem?_cons_succ, List.getElem?_cons_zero, Res.bind_ok, u_eC, u_opIx, dget_d, seq_list, a0]
    rw [u_tVal, u_eOp, e0]
    simp [str_dec, str_ok]
  have f2 : tVal (eOp opNe (eCallB cLen (aCons (eVar 4) aNil)) (eVar 2)) [some (.d (.str line)), some (.d (.str word)), some (.d (.int (size : Int))), some (.d (.list ((w0 :: r).map PyData.str))), some (.d (.list ((r.map numT).map optI))), none] L = .ok (!decide (r.length = size)) L := by
    generalize (w0 :: r).map PyData.str = A
    rw [← ol]
    generalize (r.map numT).map optI = B
    have : decide ((B.length : Int) = (size : Int)) = decide (B.length = size) := decide_eq_decide.mpr (by omega)
    simp [eqv_int, this]
  have f3 : tVal (eOp (opIn false) (eC .none) (eVar 4)) [some (.d (.str line)), some (.d (.str word)), some (.d (.int (size : Int))), some (.d (.list ((w0 :: r).map PyData.str))), some (.d (.list ((r.map numT).map optI))), none] L = .ok (!(allO (r.map numT)).isSome) L := by
    generalize (w0 :: r).map PyData.str = A
    rw [u_tVal, u_eOp, u_eC]
    simp only [Res.bind_ok, u_eVar, List.getElem?_cons_succ, List.getElem?_cons_zero, u_opIn, dget_d, Va.data, sh, sn, Bool.and_self, if_true, no, Bool.false_eq_true, if_false]
  have f4 : ∀ ns, allO (r.map numT) = some ns → eCallB cTuple (aCons (eVar 4) aNil) [some (.d (.str line)), some (.d (.str word)), some (.d (.int (size : Int))), some (.d (.list ((w0 :: r).map PyData.str))), some (.d (.list ((r.map numT).map optI))), none] L = .ok (.d (.tuple (ns.map PyData.int))) L := fun ns h => by
    rw [op ns h]
    generalize (w0 :: r).map PyData.str = A
    simp
  obtain ⟨E, hE⟩ : ∃ E : En, E = [some (.d (.str line)), some (.d (.str word)), some (.d (.int (size : Int))), some (.d (.list ((w0 :: r).map PyData.str))), some (.d (.list ((r.map numT).map optI))), none] := ⟨_, rfl⟩
  rw [← hE] at f1 f2 f3 f4 ⊢
  by_cases c1 : w0 = word
  · by_cases c2 : r.length = size
    · rw [if_pos ⟨c1, c2⟩]
      cases h : allO (r.map numT) with
      | none =>
        rw [h] at f3
        refine seq_rt ?_
        rw [u_sIf, u_tOrF, f1]
        simp only [Res.bind_ok, c1, decide_true, Bool.not_true, Bool.false_eq_true, if_false]
        rw [u_tOrF, f2]
        simp only [Res.bind_ok, c2, decide_true, Bool.not_true, Bool.false_eq_true, if_false]
        rw [f3]
        simp [optT]
      | some ns =>
        rw [h] at f3
        refine seq_nx (env1 := E) (L1 := L) (by
          rw [u_sIf, u_tOrF, f1]
          simp only [Res.bind_ok, c1, decide_true, Bool.not_true, Bool.false_eq_true, if_false]
          rw [u_tOrF, f2]
          simp only [Res.bind_ok, c2, decide_true, Bool.not_true, Bool.false_eq_true, if_false]
          rw [f3]
          simp) ?_
        rw [u_sRet, f4 ns h]
        rfl
    · rw [if_neg (fun z => c2 z.2)]
      refine seq_rt ?_
      rw [u_sIf, u_tOrF, f1]
      simp only [Res.bind_ok, c1, decide_true, Bool.not_true, Bool.false_eq_true, if_false]
      rw [u_tOrF, f2]
      simp [c2, optT]
  · rw [if_neg (fun z => c1 z.1)]
    refine seq_rt ?_
    rw [u_sIf, u_tOrF, f1]
    simp [c1, optT]
def rowsT (word : Str) (size : Nat) : Nat → List Str → Except Nat (List (List Int))
  | _, [] => .ok []
  | k, l :: ls => match rowT l word size with
    | none => .error k
    | some r => match rowsT word size (k + 1) ls with
      | .ok rs => .ok (r :: rs)
      | .error j => .error j
def parseT (head word : Str) (size : Nat) (text : Str) : Except Nat (List Int × List (List Int)) :=
  match rowT ((Txt.split text nlS).headD "") head 3 with
  | none => .error 1
  | some f => match rowsT word size 2 (Txt.split text nlS).tail with
    | .ok rs => .ok (f, rs)
    | .error j => .error j
def rowD (r : List Int) : PyData := .tuple (r.map PyData.int)
def parD (p : List Int × List (List Int)) : PyData := .tuple (p.1.map PyData.int ++ [.tuple (p.2.map rowD)])
theorem lines_of (text : Str) : ∃ l0 ls, Txt.split text nlS = l0 :: ls ∧ l0.length ≤ text.length ∧ ls.length ≤ text.length ∧ ∀ l ∈ ls, l.length ≤ text.length := by
  obtain ⟨a, b, c⟩ := split_nl text
  cases h : Txt.split text nlS with
  | nil => exact absurd h a
  | cons l0 ls =>
    rw [h] at b c
    exact ⟨l0, ls, rfl, c l0 List.mem_cons_self, by simp only [List.length_cons] at b; omega, fun w hw => c w (List.mem_cons_of_mem _ hw)⟩
theorem enum_cons (k : Int) (x : PyData) (xs : List PyData) : enumV k ((x :: xs).map Va.d) = Va.d (.tuple [.int k, x]) :: enumV (k + 1) (xs.map Va.d) := by
  have e : ∀ i : Nat, (xs.map Va.d).zipIdx (i + 1) = ((xs.map Va.d).zipIdx i).map fun p => (p.1, p.2 + 1) := fun i => by
    rw [List.zipIdx_succ]
  unfold enumV
  rw [List.map_cons, List.zipIdx_cons, List.map_cons, e 0, List.map_map]
  refine congr (congrArg List.cons ?_) ?_
  · show mkTup [Va.d (.int (k + ((0 : Nat) : Int))), Va.d x] = _
    rw [show k + ((0 : Nat) : Int) = k by omega]
    rfl
  · refine List.map_congr_left fun p _ => ?_
    show mkTup [Va.d (.int (k + ((p.2 + 1 : Nat) : Int))), p.1] = mkTup [Va.d (.int (k + 1 + (p.2 : Int))), p.1]
    rw [show k + ((p.2 + 1 : Nat) : Int) = k + 1 + (p.2 : Int) by omega]
theorem rowsT_len {word : Str} {size : Nat} : ∀ {k : Nat} {ls : List Str} {rs : List (List Int)}, rowsT word size k ls = .ok rs → rs.length = ls.length
  | _, [], rs, h => by cases h; rfl
  | k, l :: ls, rs, h => by
    simp only [rowsT] at h
    split at h
    · cases h
    · split at h
      · rename_i r rs' h2
        cases h
        simp [rowsT_len h2]
      · cases h
theorem rdl_loop {word : Str} {size : Nat} (hs : size ≤ 1000) {x0 x1 x4 x5 : Option Va} (L : LH) : ∀ (ls : List Str) (k : Nat) (acc : List PyData) (x7 x8 x9 : Option Va), (∀ l ∈ ls, l.length ≤ 1000000) → acc.length + ls.length ≤ 10000000 →
    (∀ rs, rowsT word size k ls = .ok rs → ∃ y7 y8 y9, forL (tTupT 2 (tgCons (tN 7) (tgCons (tN 8) tgNil))) b_rows_read_1 (enumV (k : Int) ((ls.map PyData.str).map Va.d)) [x0, x1, some (.d (.str word)), some (.d (.int (size : Int))), x4, x5, some (.loc L.length), x7, x8, x9] (L ++ [some (.lst (acc.map Va.d))]) = .nx [x0, x1, some (.d (.str word)), some (.d (.int (size : Int))), x4, x5, some (.loc L.length), y7, y8, y9] (L ++ [some (.lst ((acc ++ rs.map rowD).map Va.d))])) ∧
    (∀ j, rowsT word size k ls = .error j → ∃ env' g, forL (tTupT 2 (tgCons (tN 7) (tgCons (tN 8) tgNil))) b_rows_read_1 (enumV (k : Int) ((ls.map PyData.str).map Va.d)) [x0, x1, some (.d (.str word)), some (.d (.int (size : Int))), x4, x5, some (.loc L.length), x7, x8, x9] (L ++ [some (.lst (acc.map Va.d))]) = .exc "NoText" (some (.int (j : Int))) env' (L ++ g))
  | [], k, acc, x7, x8, x9, _, _ => by
    refine ⟨fun rs h => ?_, fun j h => by cases h⟩
    cases h
    exact ⟨x7, x8, x9, by rw [show acc ++ List.map rowD [] = acc by simp]; rfl⟩
  | l :: ls, k, acc, x7, x8, x9, hl, hz => by
    have zs := sizeLine_eq
    have rr := row_read_run l word size (hl l List.mem_cons_self) hs (L ++ [some (.lst (acc.map Va.d))])
    have tg : tTupT 2 (tgCons (tN 7) (tgCons (tN 8) tgNil)) (.d (.tuple [.int (k : Int), .str l])) [x0, x1, some (.d (.str word)), some (.d (.int (size : Int))), x4, x5, some (.loc L.length), x7, x8, x9] (L ++ [some (.lst (acc.map Va.d))]) = .ok [x0, x1, some (.d (.str word)), some (.d (.int (size : Int))), x4, x5, some (.loc L.length), some (.d (.int (k : Int))), some (.d (.str l)), x9] (L ++ [some (.lst (acc.map Va.d))]) := by
      simp [Va.seq]
    have s9 : sSet 9 (eCall F_row_read (aCons (eVar 8) (aCons (eVar 2) (aCons (eVar 3) aNil)))) [x0, x1, some (.d (.str word)), some (.d (.int (size : Int))), x4, x5, some (.loc L.length), some (.d (.int (k : Int))), some (.d (.str l)), x9] (L ++ [some (.lst (acc.map Va.d))]) = .nx [x0, x1, some (.d (.str word)), some (.d (.int (size : Int))), x4, x5, some (.loc L.length), some (.d (.int (k : Int))), some (.d (.str l)), some (.d (optT (rowT l word size)))] (L ++ [some (.lst (acc.map Va.d))]) := by
      simp [rr]
    have step : forL (tTupT 2 (tgCons (tN 7) (tgCons (tN 8) tgNil))) b_rows_read_1 (enumV (k : Int) (((l :: ls).map PyData.str).map Va.d)) [x0, x1, some (.d (.str word)), some (.d (.int (size : Int))), x4, x5, some (.loc L.length), x7, x8, x9] (L ++ [some (.lst (acc.map Va.d))]) = match b_rows_read_1 [x0, x1, some (.d (.str word)), some (.d (.int (size : Int))), x4, x5, some (.loc L.length), some (.d (.int (k : Int))), some (.d (.str l)), x9] (L ++ [some (.lst (acc.map Va.d))]) with
      | .nx env2 L2 => forL (tTupT 2 (tgCons (tN 7) (tgCons (tN 8) tgNil))) b_rows_read_1 (enumV ((k + 1 : Nat) : Int) ((ls.map PyData.str).map Va.d)) env2 L2
      | .ct env2 L2 => forL (tTupT 2 (tgCons (tN 7) (tgCons (tN 8) tgNil))) b_rows_read_1 (enumV ((k + 1 : Nat) : Int) ((ls.map PyData.str).map Va.d)) env2 L2
      | .bk env2 L2 => .nx env2 L2
      | o => o := by
      have ek : ((k + 1 : Nat) : Int) = (k : Int) + 1 := by omega
      rw [List.map_cons, enum_cons, ek]
      conv => lhs; unfold forL
      (simp only [tg]) <;> (generalize b_rows_read_1 _ _ = o; cases o <;> rfl)
    cases hr : rowT l word size with
    | none =>
      refine ⟨fun rs h => by simp [rowsT, hr] at h, fun j h => ?_⟩
      simp only [rowsT, hr, Except.error.injEq] at h
      subst h
      rw [hr] at s9
      have bd : b_rows_read_1 [x0, x1, some (.d (.str word)), some (.d (.int (size : Int))), x4, x5, some (.loc L.length), some (.d (.int (k : Int))), some (.d (.str l)), x9] (L ++ [some (.lst (acc.map Va.d))]) = .exc "NoText" (some (.int (k : Int))) [x0, x1, some (.d (.str word)), some (.d (.int (size : Int))), x4, x5, some (.loc L.length), some (.d (.int (k : Int))), some (.d (.str l)), some (.d .none)] (L ++ [some (.lst (acc.map Va.d))]) := by
        refine seq_nx s9 ?_
        refine seq_exc ?_
        simp [optT, Va.isN]
      exact ⟨_, [some (.lst (acc.map Va.d))], by rw [step, bd]⟩
    | some r =>
      rw [hr] at s9
      have app : sExpr (eMeth isLs mAppend (eVar 6) (aCons (eVar 9) aNil)) [x0, x1, some (.d (.str word)), some (.d (.int (size : Int))), x4, x5, some (.loc L.length), some (.d (.int (k : Int))), some (.d (.str l)), some (.d (optT (some r)))] (L ++ [some (.lst (acc.map Va.d))]) = .nx [x0, x1, some (.d (.str word)), some (.d (.int (size : Int))), x4, x5, some (.loc L.length), some (.d (.int (k : Int))), some (.d (.str l)), some (.d (optT (some r)))] (L ++ [some (.lst ((acc ++ [rowD r]).map Va.d))]) := by
        have g : (L ++ [some (Ob.lst (acc.map Va.d))])[L.length]? = some (some (.lst (acc.map Va.d))) := app_get
        have k1 : (acc.map Va.d).length < sizeLine := by rw [List.length_map]; simp only [List.length_cons] at hz; omega
        have il : isLs (L ++ [some (Ob.lst (acc.map Va.d))]) (.loc L.length) = true := by rw [u_isLs]; simp only [g]
        rw [u_sExpr, u_eMeth, u_eVar]
        simp only [List.getElem?_cons_succ, List.getElem?_cons_zero, Res.bind_ok, il, if_true]
        rw [u_aCons, u_eVar]
        simp only [List.getElem?_cons_succ, List.getElem?_cons_zero, Res.bind_ok, u_aNil, u_mAppend, g, if_pos k1, then_ok]
        rw [List.set_append_right _ _ (Nat.le_refl _)]
        simp [optT, rowD]
      have bd : b_rows_read_1 [x0, x1, some (.d (.str word)), some (.d (.int (size : Int))), x4, x5, some (.loc L.length), some (.d (.int (k : Int))), some (.d (.str l)), x9] (L ++ [some (.lst (acc.map Va.d))]) = .nx [x0, x1, some (.d (.str word)), some (.d (.int (size : Int))), x4, x5, some (.loc L.length), some (.d (.int (k : Int))), some (.d (.str l)), some (.d (optT (some r)))] (L ++ [some (.lst ((acc ++ [rowD r]).map Va.d))]) := by
        refine seq_nx s9 ?_
        refine seq_nx (env1 := [x0, x1, some (.d (.str word)), some (.d (.int (size : Int))), x4, x5, some (.loc L.length), some (.d (.int (k : Int))), some (.d (.str l)), some (.d (optT (some r)))]) (L1 := L ++ [some (.lst (acc.map Va.d))]) (by simp [optT, Va.isN]) ?_
        exact app
      obtain ⟨i1, i2⟩ := rdl_loop (word := word) (size := size) hs (x0 := x0) (x1 := x1) (x4 := x4) (x5 := x5) L ls (k + 1) (acc ++ [rowD r]) (some (.d (.int (k : Int)))) (some (.d (.str l))) (some (.d (optT (some r)))) (fun z h => hl z (List.mem_cons_of_mem _ h)) (by simp only [List.length_append, List.length_cons, List.length_nil] at *; omega)
      refine ⟨fun rs h => ?_, fun j h => ?_⟩
      · simp only [rowsT, hr] at h
        split at h
        · rename_i rs' h2
          cases h
          obtain ⟨y7, y8, y9, e⟩ := i1 rs' h2
          refine ⟨y7, y8, y9, ?_⟩
          rw [step, bd]
          show forL _ _ _ _ _ = _
          rw [e, List.map_cons, List.append_assoc]
          rfl
        · cases h
      · simp only [rowsT, hr] at h
        split at h
        · cases h
        · rename_i j' h2
          cases h
          obtain ⟨env', g, e⟩ := i2 j h2
          exact ⟨env', g, by rw [step, bd]; exact e⟩
end L2.HW
namespace L2.HW
open PySem PySem.Spec PyProof.Rows L2.HW.G PySem.NumText TL
theorem fn_exc {np nl : Nat} {body : SFn} {ws : List Va} {L g : LH} {c : Str} {x : Option PyData} {env' : En} (hl : ws.length = np) (h : body (ws.map some ++ List.replicate (nl - ws.length) none) L = .exc c x env' (L ++ g)) : mkFn np nl body ws L = .exc c x L := by
  unfold mkFn
  rw [if_pos hl, h]
  simp
theorem for_exc {s : Srcf} {g : Va → En → LH → Res En} {body : SFn} {env env1 : En} {L L1 : LH} {c : Str} {x : Option PyData} {ws : List Va} (hs : s env L = .ok (ws, none) L) (h : forL g body ws env L = .exc c x env1 L1) : sFor s g body env L = .exc c x env1 L1 := by
  simp only [sFor, hs, then_ok, lockL_none, h]
  rfl
theorem parse_eq {head word : Str} {size : Nat} {text l0 : Str} {ls : List Str} (h : Txt.split text nlS = l0 :: ls) : parseT head word size text = match rowT l0 head 3 with
  | none => .error 1
  | some f => match rowsT word size 2 ls with
    | .ok rs => .ok (f, rs)
    | .error j => .error j := by
  unfold parseT
  rw [h]
  rfl
theorem first_line {l0 : Str} {ls : List Str} {i : Nat} {env : En} {L : LH} (he : env[i]? = some (some (.d (.list ((l0 :: ls).map PyData.str))))) : eOp opIx (eVar i) (eC (.int 0)) env L = .ok (.d (.str l0)) L := by
  have a0 : atI (((l0 :: ls).map PyData.str).map Va.d) 0 = some (.d (.str l0)) := by simp [atI, ixN]
  rw [u_eOp, u_eVar, he]
  simp only [Res.bind_ok, u_eC, u_opIx, dget_d, seq_list, a0]
theorem rows_read_run (text head word : Str) (size : Nat) (hl : text.length ≤ 1000000) (hs : size ≤ 1000) (L : LH) :
    F_rows_read [.d (.str text), .d (.str head), .d (.str word), .d (.int (size : Int))] L = match parseT head word size text with
      | .ok p => .ok (.d (parD p)) L
      | .error j => .exc "NoText" (some (.int (j : Int))) L := by
  have zs := sizeLine_eq
  obtain ⟨l0, ls, hsp, h0, hn, hw⟩ := lines_of text
  rw [parse_eq hsp]
  have s4 : sSet 4 (eDat (fSplit (eVar 0) (eC (.str "\n")))) [some (.d (.str text)), some (.d (.str head)), some (.d (.str word)), some (.d (.int (size : Int))), none, none, none, none, none, none] L = .nx [some (.d (.str text)), some (.d (.str head)), some (.d (.str word)), some (.d (.int (size : Int))), some (.d (.list ((l0 :: ls).map PyData.str))), none, none, none, none, none] L := by
    have := split_ev (i := 0) (x := text) (m := nlS) (env := [some (.d (.str text)), some (.d (.str head)), some (.d (.str word)), some (.d (.int (size : Int))), none, none, none, none, none, none]) (L := L) rfl nl_len hl
    rw [hsp] at this
    rw [u_sSet, this]
    rfl
  have r0 := row_read_run l0 head 3 (by omega) (by omega) L
  have s5 : sSet 5 (eCall F_row_read (aCons (eOp opIx (eVar 4) (eC (.int 0))) (aCons (eVar 1) (aCons (eC (.int 3)) aNil)))) [some (.d (.str text)), some (.d (.str head)), some (.d (.str word)), some (.d (.int (size : Int))), some (.d (.list ((l0 :: ls).map PyData.str))), none, none, none, none, none] L = .nx [some (.d (.str text)), some (.d (.str head)), some (.d (.str word)), some (.d (.int (size : Int))), some (.d (.list ((l0 :: ls).map PyData.str))), some (.d (optT (rowT l0 head 3))), none, none, none, none] L := by
    have fl := first_line (l0 := l0) (ls := ls) (i := 4) (env := [some (.d (.str text)), some (.d (.str head)), some (.d (.str word)), some (.d (.int (size : Int))), some (.d (.list ((l0 :: ls).map PyData.str))), none, none, none, none, none]) (L := L) rfl
    rw [u_sSet, u_eCall, u_aCons, fl]
    generalize (l0 :: ls).map PyData.str = A
    have r0' : F_row_read [.d (.str l0), .d (.str head), .d (.int 3)] L = .ok (.d (optT (rowT l0 head 3))) L := r0
    simp [r0']
  cases hr : rowT l0 head 3 with
  | none =>
    rw [hr] at s5
    refine fn_exc (g := []) (env' := [some (.d (.str text)), some (.d (.str head)), some (.d (.str word)), some (.d (.int (size : Int))), some (.d (.list ((l0 :: ls).map PyData.str))), some (.d .none), none, none, none, none]) rfl ?_
    rw [List.append_nil]
    show b_rows_read [some (.d (.str text)), some (.d (.str head)), some (.d (.str word)), some (.d (.int (size : Int))), none, none, none, none, none, none] L = _
    refine seq_nx s4 (seq_nx s5 (seq_exc ?_))
    generalize (l0 :: ls).map PyData.str = A
    simp [optT, Va.isN]
  | some f =>
    rw [hr] at s5
    have s6 : sIf (tVal (eOp opIsN (eVar 5) (eC .none))) (sRaiseV "NoText" (aCons (eC (.int 1)) aNil)) sNil [some (.d (.str text)), some (.d (.str head)), some (.d (.str word)), some (.d (.int (size : Int))), some (.d (.list ((l0 :: ls).map PyData.str))), some (.d (optT (some f))), none, none, none, none] L = .nx [some (.d (.str text)), some (.d (.str head)), some (.d (.str word)), some (.d (.int (size : Int))), some (.d (.list ((l0 :: ls).map PyData.str))), some (.d (optT (some f))), none, none, none, none] L := by
      generalize (l0 :: ls).map PyData.str = A
      simp [optT, Va.isN]
    have s7 : sSet 6 (eNew (fLst aNil)) [some (.d (.str text)), some (.d (.str head)), some (.d (.str word)), some (.d (.int (size : Int))), some (.d (.list ((l0 :: ls).map PyData.str))), some (.d (optT (some f))), none, none, none, none] L = .nx [some (.d (.str text)), some (.d (.str head)), some (.d (.str word)), some (.d (.int (size : Int))), some (.d (.list ((l0 :: ls).map PyData.str))), some (.d (optT (some f))), some (.loc L.length), none, none, none] (L ++ [some (.lst (([] : List PyData).map Va.d))]) := by
      generalize (l0 :: ls).map PyData.str = A
      simp
    have src : srcEk (aCons (eSl (eVar 4) (pSome (eC (.int 1))) pNone) (aCons (eC (.int 2)) aNil)) [some (.d (.str text)), some (.d (.str head)), some (.d (.str word)), some (.d (.int (size : Int))), some (.d (.list ((l0 :: ls).map PyData.str))), some (.d (optT (some f))), some (.loc L.length), none, none, none] (L ++ [some (.lst (([] : List PyData).map Va.d))]) = .ok (enumV ((2 : Nat) : Int) ((ls.map PyData.str).map Va.d), none) (L ++ [some (.lst (([] : List PyData).map Va.d))]) := by
      have sl := sl_from (f := eVar 4) (xs := (l0 :: ls).map PyData.str) (env := [some (.d (.str text)), some (.d (.str head)), some (.d (.str word)), some (.d (.int (size : Int))), some (.d (.list ((l0 :: ls).map PyData.str))), some (.d (optT (some f))), some (.loc L.length), none, none, none]) (L := L ++ [some (.lst (([] : List PyData).map Va.d))]) 1 rfl
      have sl' : eSl (eVar 4) (pSome (eC (.int 1))) pNone [some (.d (.str text)), some (.d (.str head)), some (.d (.str word)), some (.d (.int (size : Int))), some (.d (.list ((l0 :: ls).map PyData.str))), some (.d (optT (some f))), some (.loc L.length), none, none, none] (L ++ [some (.lst (([] : List PyData).map Va.d))]) = .ok (.d (.list (ls.map PyData.str))) (L ++ [some (.lst (([] : List PyData).map Va.d))]) := sl
      rw [u_srcEk, u_aCons, sl']
      simp only [Res.bind_ok, u_aCons, u_eC, u_aNil]
      rfl
    obtain ⟨i1, i2⟩ := rdl_loop (word := word) (size := size) hs (x0 := some (.d (.str text))) (x1 := some (.d (.str head))) (x4 := some (.d (.list ((l0 :: ls).map PyData.str)))) (x5 := some (.d (optT (some f)))) L ls 2 [] none none none (fun l h => by have := hw l h; omega) (by simp only [List.length_nil]; omega)
    cases hR : rowsT word size 2 ls with
    | error j =>
      obtain ⟨env', g, e⟩ := i2 j hR
      refine fn_exc (g := g) (env' := env') rfl ?_
      show b_rows_read [some (.d (.str text)), some (.d (.str head)), some (.d (.str word)), some (.d (.int (size : Int))), none, none, none, none, none, none] L = _
      exact seq_nx s4 (seq_nx s5 (seq_nx s6 (seq_nx s7 (seq_exc (for_exc src e)))))
    | ok rs =>
      obtain ⟨y7, y8, y9, e⟩ := i1 rs hR
      have lr := rowsT_len hR
      refine fn_rt (L' := L ++ [some (.lst ((rs.map rowD).map Va.d))]) (x := parD (f, rs)) rfl ?_
      show b_rows_read [some (.d (.str text)), some (.d (.str head)), some (.d (.str word)), some (.d (.int (size : Int))), none, none, none, none, none, none] L = _
      refine seq_nx s4 (seq_nx s5 (seq_nx s6 (seq_nx s7 (seq_nx (for_nx src e) ?_))))
      rw [List.nil_append]
      generalize hA : (l0 :: ls).map PyData.str = A
      have g : (L ++ [some (Ob.lst ((rs.map rowD).map Va.d))])[L.length]? = some (some (.lst ((rs.map rowD).map Va.d))) := app_get
      have it : Va.items (L ++ [some (Ob.lst ((rs.map rowD).map Va.d))]) (.loc L.length) = some ((rs.map rowD).map Va.d) := by unfold Va.items; simp only [g]
      have ct : eCallB cTuple (aCons (eVar 6) aNil) [some (.d (.str text)), some (.d (.str head)), some (.d (.str word)), some (.d (.int (size : Int))), some (.d (.list A)), some (.d (.tuple (f.map PyData.int))), some (.loc L.length), y7, y8, y9] (L ++ [some (.lst ((rs.map rowD).map Va.d))]) = .ok (.d (.tuple (rs.map rowD))) (L ++ [some (.lst ((rs.map rowD).map Va.d))]) := by
        rw [u_eCallB, u_aCons, u_eVar]
        simp only [List.getElem?_cons_succ, List.getElem?_cons_zero, Res.bind_ok, u_aNil, u_cTuple, it, mkTup_map]
      have fl : f.length = 3 := by
        unfold rowT at hr
        split at hr
        · rename_i hc
          have := congrArg List.length (allO_iff.mp hr)
          rw [List.length_map, List.length_map] at this
          omega
        · cases hr
      have kk : (f.map PyData.int).length + (0 + 1) ≤ sizeLine := by rw [List.length_map]; omega
      rw [u_sRet, u_eTup, u_aStar, u_eVar]
      simp only [List.getElem?_cons_succ, List.getElem?_cons_zero, Res.bind_ok, optT, seq_tuple]
      rw [u_aCons, ct]
      simp only [Res.bind_ok, u_aNil, List.length_append, List.length_map, List.length_cons, List.length_nil]
      have k2 : f.length + (0 + 1) ≤ sizeLine := by omega
      rw [if_pos k2]
      have mk : mkTup ((f.map PyData.int).map Va.d ++ [Va.d (PyData.tuple (rs.map rowD))]) = .d (parD (f, rs)) := by
        have : (f.map PyData.int).map Va.d ++ [Va.d (PyData.tuple (rs.map rowD))] = (f.map PyData.int ++ [PyData.tuple (rs.map rowD)]).map Va.d := by rw [List.map_append]; rfl
        rw [this, mkTup_map]
        rfl
      rw [mk]
      rfl
end L2.HW
namespace L2.HW
open PySem PySem.Spec PyProof.Rows L2.HW.G PySem.NumText TL
theorem line_at {lines : List Str} {i j k : Nat} {l : Str} (hk : lines[k]? = some l) {env : En} {L : LH} (he : env[i]? = some (some (.d (.list (lines.map PyData.str))))) (hj : env[j]? = some (some (.d (.int (k : Int))))) : eOp opIx (eVar i) (eVar j) env L = .ok (.d (.str l)) L := by
  have hlt := (List.getElem?_eq_some_iff.mp hk).1
  have a0 : atI ((lines.map PyData.str).map Va.d) (k : Int) = some (.d (.str l)) := by
    have : k < lines.length := hlt
    simp [atI, ixN, this, hk]
    exact (List.getElem?_eq_some_iff.mp hk).2
  rw [u_eOp, u_eVar, he]
  simp only [Res.bind_ok, u_eVar, hj, u_opIx, dget_d, seq_list, a0]
end L2.HW
namespace L2.HW
open PySem PySem.Spec PyProof.Rows L2.HW.G PySem.NumText TL
theorem rowT_ok {line word : Str} {size : Nat} {ns : List Int} (h : rowT line word size = some ns) : ns.length = size ∧ ∀ n ∈ ns, 0 ≤ n ∧ n < 10 ^ 30 := by
  unfold rowT at h
  split at h
  · rename_i hc
    have e := allO_iff.mp h
    refine ⟨?_, fun n hn => ?_⟩
    · have := congrArg List.length e
      rw [List.length_map, List.length_map] at this
      omega
    · have : some n ∈ ns.map some := List.mem_map.mpr ⟨n, hn, rfl⟩
      rw [← e] at this
      obtain ⟨w, _, hw⟩ := List.mem_map.mp this
      exact numT_bound hw
  · cases h
theorem rowsT_ok {word : Str} {size : Nat} : ∀ {k : Nat} {ls : List Str} {rs : List (List Int)}, rowsT word size k ls = .ok rs → ∀ r ∈ rs, r.length = size ∧ ∀ n ∈ r, 0 ≤ n ∧ n < 10 ^ 30
  | _, [], rs, h => by cases h; simp
  | k, l :: ls, rs, h => by
    simp only [rowsT] at h
    split at h
    · cases h
    · rename_i r hr
      split at h
      · rename_i rs' h2
        cases h
        intro z hz
        rcases List.mem_cons.mp hz with rfl | hz
        · exact rowT_ok hr
        · exact rowsT_ok h2 z hz
      · cases h
theorem fine_row {r : List Int} (h : ∀ n ∈ r, 0 ≤ n ∧ n < 10 ^ 30) : fine (rowD r) = true ∧ (rowD r).depth ≤ 1 ∧ (rowD r).bulk ≤ 2 * r.length + 2 := by
  have a : ∀ l : List Int, (∀ n ∈ l, 0 ≤ n ∧ n < 10 ^ 30) → fineAll (l.map PyData.int) = true ∧ PyData.depthAll (l.map PyData.int) = 0 ∧ PyData.bulkAll (l.map PyData.int) ≤ 2 * l.length := by
    intro l
    induction l with
    | nil => intro _; simp [fineAll, PyData.depthAll, PyData.bulkAll]
    | cons n l ih =>
      intro h
      obtain ⟨i1, i2, i3⟩ := ih fun x hx => h x (List.mem_cons_of_mem _ hx)
      have := fine_num (h n List.mem_cons_self)
      refine ⟨by simp [fineAll, this, i1], by simp [PyData.depthAll, PyData.depth, i2], ?_⟩
      simp only [List.map_cons, PyData.bulkAll, PyData.bulk, List.length_cons]
      omega
  obtain ⟨a1, a2, a3⟩ := a r h
  refine ⟨by simp [rowD, fine, a1], by simp [rowD, PyData.depth, a2], ?_⟩
  simp only [rowD, PyData.bulk]
  omega
theorem parse_parts {head word : Str} {size : Nat} {text : Str} {p : List Int × List (List Int)} (h : parseT head word size text = .ok p) : ∃ a b c rs, p = ([a, b, c], rs) ∧ (∀ n ∈ [a, b, c], 0 ≤ n ∧ n < 10 ^ 30) ∧ (∀ r ∈ rs, r.length = size ∧ ∀ n ∈ r, 0 ≤ n ∧ n < 10 ^ 30) ∧ rs.length ≤ text.length := by
  obtain ⟨l0, ls, hsp, h0, hn, hw⟩ := lines_of text
  rw [parse_eq hsp] at h
  cases hr : rowT l0 head 3 with
  | none => rw [hr] at h; cases h
  | some f =>
    rw [hr] at h
    cases hR : rowsT word size 2 ls with
    | error j => rw [hR] at h; cases h
    | ok rs =>
      rw [hR] at h
      cases h
      obtain ⟨f1, f2⟩ := rowT_ok hr
      have lr := rowsT_len hR
      match f, f1, f2 with
      | [a, b, c], _, f2 => exact ⟨a, b, c, rs, rfl, f2, rowsT_ok hR, by omega⟩
theorem par_eq (a b c : Int) (rs : List (List Int)) : parD ([a, b, c], rs) = .tuple [.int a, .int b, .int c, .tuple (rs.map rowD)] := rfl
def dueT (J : PyData → Bool) (head word : Str) (size : Nat) (text : Str) : PyData := match parseT head word size text with
  | .error j => .int (j : Int)
  | .ok p => if J (parD p) then parD p else .int (((Txt.split text nlS).length + 1 : Nat) : Int)
end L2.HW
namespace L2.HW
open PySem PySem.Spec PyProof.Rows L2.HW.G PySem.NumText TL
def numS (n : Int) : Str := Str.ofString (toString n)
def digs (k : Nat) : List Nat := if h : k < 10 then [48 + k] else digs (k / 10) ++ [48 + k % 10]
theorem digs_lt {k : Nat} (h : k < 10) : digs k = [48 + k] := by rw [digs]; simp [h]
theorem digs_ge {k : Nat} (h : ¬ k < 10) : digs k = digs (k / 10) ++ [48 + k % 10] := by
  conv => lhs; rw [digs]
  simp [h]
theorem digs_ok : ∀ k : Nat, AllDigits (digs k) ∧ digs k ≠ [] ∧ digitsVal (digs k) = k ∧ (∀ m, 1 ≤ m → k < 10 ^ m → (digs k).length ≤ m) ∧ (1 ≤ k → ∃ c r, digs k = c :: r ∧ 49 ≤ c) := by
  intro k
  induction k using Nat.strongRecOn with
  | ind k ih =>
    by_cases h : k < 10
    · rw [digs_lt h]
      refine ⟨fun c hc => ?_, by simp, by simp [digitsVal], fun m hm _ => by simpa using hm, fun h1 => ⟨48 + k, [], rfl, by omega⟩⟩
      rw [List.mem_singleton.mp hc]
      omega
    · obtain ⟨i1, i2, i3, i4, i5⟩ := ih (k / 10) (by omega)
      rw [digs_ge h]
      refine ⟨fun c hc => ?_, by simp, ?_, fun m hm hk => ?_, fun _ => ?_⟩
      · rcases List.mem_append.mp hc with hc | hc
        · exact i1 c hc
        · rw [List.mem_singleton.mp hc]
          omega
      · rw [digitsVal_snoc, i3]
        omega
      · have hm2 : 2 ≤ m := by
          by_cases z : m = 1
          · rw [z] at hk; omega
          · omega
        have e : (10 : Nat) ^ m = 10 ^ (m - 1) * 10 := by
          rw [← Nat.pow_succ]
          congr 1
          omega
        have := i4 (m - 1) (by omega) (by rw [e] at hk; omega)
        rw [List.length_append, List.length_cons, List.length_nil]
        omega
      · obtain ⟨c, r, e, h9⟩ := i5 (by omega)
        exact ⟨c, r ++ [48 + k % 10], by rw [e]; rfl, h9⟩
theorem numS_tl {k : Nat} : tl (numS (k : Int)) = digs k := by
  obtain ⟨a, b, c, d, e⟩ := digs_ok k
  have len : (digs k).length = ((digs k).length - 1) + 1 := by
    have := List.length_pos_iff.mpr b
    omega
  have td : Nat.toDigits 10 (digitsVal (digs k)) = (digs k).map Char.ofNat := by
    refine toDigits_digitsVal _ _ len a ?_
    by_cases z : 1 ≤ k
    · obtain ⟨c, r, h1, h2⟩ := e z
      exact .inr ⟨c, r, h1, h2⟩
    · have : k = 0 := by omega
      subst this
      exact .inl (by rw [digs_lt (by omega)]; rfl)
  rw [c] at td
  have e1 : tl (numS (k : Int)) = ((toString (k : Int)).toList.map Char.toNat) := tl_ofString _
  have e2 : (toString (k : Int)).toList = Nat.toDigits 10 k := by
    show (String.ofList (Nat.toDigits 10 k)).toList = _
    simp
  rw [e1, e2, td, List.map_map]
  refine (List.map_congr_left fun x hx => ?_).trans (List.map_id _)
  have := a x hx
  show (Char.ofNat x).toNat = x
  exact (by decide : ∀ y, y < 58 → (Char.ofNat y).toNat = y) x (by omega)
theorem numT_numS {n : Int} (h : 0 ≤ n ∧ n < 10 ^ 30) : numT (numS n) = some n := by
  obtain ⟨k, rfl⟩ := Int.eq_ofNat_of_zero_le h.1
  obtain ⟨a, b, c, d, e⟩ := digs_ok k
  have hk : k < 10 ^ 30 := by
    have e : ((10 : Int) ^ 30) = ((10 ^ 30 : Nat) : Int) := by decide +kernel
    rw [e] at h
    omega
  have t : cpsL (numS (k : Int)) = digs k := numS_tl
  have ne : numS (k : Int) ≠ "" := fun z => by
    rw [z] at t
    exact b (by rw [← t]; decide +kernel)
  have ln : ¬ 30 < (numS (k : Int)).length := by
    have := d 30 (by omega) hk
    rw [len_tl, numS_tl]
    omega
  have al : (cpsL (numS (k : Int))).all digB = true := by
    rw [t, List.all_eq_true]
    exact fun x hx => (digB_iff x).mpr (a x hx)
  unfold numT
  rw [if_neg (by simp [ne, ln, al])]
  have hd : ¬ ((cpsL (numS (k : Int))).head? = some 48 ∧ numS (k : Int) ≠ "0") := by
    rintro ⟨h1, h2⟩
    by_cases z : 1 ≤ k
    · obtain ⟨c, r, e1, e2⟩ := e z
      rw [t, e1] at h1
      cases h1
      omega
    · have : k = 0 := by omega
      subst this
      exact h2 (by decide +kernel)
  rw [if_neg hd, t, c]
theorem numS_free {n : Int} (h : 0 ≤ n) {s : Nat} (hs : s < 48) : s ∉ tl (numS n) := by
  obtain ⟨k, rfl⟩ := Int.eq_ofNat_of_zero_le h
  rw [numS_tl]
  intro z
  have := (digs_ok k).1 s z
  omega
theorem numS_len {n : Int} (h : 0 ≤ n ∧ n < 10 ^ 30) : (numS n).length ≤ 30 := by
  obtain ⟨k, rfl⟩ := Int.eq_ofNat_of_zero_le h.1
  have hk : k < 10 ^ 30 := by
    have e : ((10 : Int) ^ 30) = ((10 ^ 30 : Nat) : Int) := by decide +kernel
    rw [e] at h
    omega
  rw [len_tl, numS_tl]
  exact (digs_ok k).2.2.2.1 30 (by omega) hk
def wordsT (word : Str) (r : List Int) : Str := Txt.join spS (word :: r.map numS)
def textT (head word : Str) (f : List Int) (rs : List (List Int)) : Str := Txt.join nlS (wordsT head f :: rs.map (wordsT word))
abbrev rng (r : List Int) : Prop := ∀ n ∈ r, 0 ≤ n ∧ n < 10 ^ 30
theorem split_words {word : Str} (hw : 32 ∉ tl word) {r : List Int} (hr : rng r) : Txt.split (wordsT word r) spS = word :: r.map numS := by
  refine split_join (s := 32) (S := []) spS_tl (by decide +kernel) (by simp) fun p hp => ?_
  rcases List.mem_cons.mp hp with rfl | hp
  · exact hw
  · obtain ⟨n, hn, rfl⟩ := List.mem_map.mp hp
    exact numS_free (hr n hn).1 (by omega)
theorem rowT_words {word : Str} (hw : 32 ∉ tl word) {r : List Int} (hr : rng r) {size : Nat} (hs : r.length = size) : rowT (wordsT word r) word size = some r := by
  unfold rowT
  rw [split_words hw hr]
  have e : (r.map numS).map numT = r.map some := by
    rw [List.map_map]
    exact List.map_congr_left fun n hn => numT_numS (hr n hn)
  rw [List.headD_cons, List.tail_cons, List.length_map, if_pos ⟨rfl, hs⟩, e]
  exact allO_iff.mpr rfl
theorem mem_join_cases {S : List Nat} : ∀ {ps : List (List Nat)} {c : Nat}, c ∈ joinL S ps → c ∈ S ∨ ∃ p ∈ ps, c ∈ p
  | [], c, h => by cases h
  | [a], c, h => .inr ⟨a, List.mem_cons_self, h⟩
  | a :: b :: r, c, h => by
    have h : c ∈ a ++ (S ++ joinL S (b :: r)) := h
    rcases List.mem_append.mp h with h | h
    · exact .inr ⟨a, List.mem_cons_self, h⟩
    · rcases List.mem_append.mp h with h | h
      · exact .inl h
      · rcases mem_join_cases h with h | ⟨p, hp, h⟩
        · exact .inl h
        · exact .inr ⟨p, List.mem_cons_of_mem _ hp, h⟩
theorem tl_join' (y : Str) (ps : List Str) : tl (Txt.join y ps) = joinL (tl y) (ps.map tl) := by rw [TL.join_eq, TL.tl_join]
theorem words_free {word : Str} (hw : 10 ∉ tl word) {r : List Int} (hr : rng r) : 10 ∉ tl (wordsT word r) := by
  unfold wordsT
  rw [tl_join']
  intro h
  rcases mem_join_cases h with h | ⟨p, hp, hc⟩
  · rw [spS_tl] at h
    simp at h
  · obtain ⟨w, hw', rfl⟩ := List.mem_map.mp hp
    rcases List.mem_cons.mp hw' with rfl | hw'
    · exact hw hc
    · obtain ⟨n, hn, rfl⟩ := List.mem_map.mp hw'
      exact numS_free (hr n hn).1 (by omega) hc
theorem split_text {head word : Str} (h1 : 10 ∉ tl head) (h2 : 10 ∉ tl word) {f : List Int} {rs : List (List Int)} (hf : rng f) (hr : ∀ r ∈ rs, rng r) : Txt.split (textT head word f rs) nlS = wordsT head f :: rs.map (wordsT word) := by
  refine split_join (s := 10) (S := []) nlS_tl (by decide +kernel) (by simp) fun p hp => ?_
  rcases List.mem_cons.mp hp with rfl | hp
  · exact words_free h1 hf
  · obtain ⟨r, hr', rfl⟩ := List.mem_map.mp hp
    exact words_free h2 (hr r hr')
theorem rowsT_words {word : Str} (hw : 32 ∉ tl word) {size : Nat} : ∀ {rs : List (List Int)} {k : Nat}, (∀ r ∈ rs, rng r ∧ r.length = size) → rowsT word size k (rs.map (wordsT word)) = .ok rs
  | [], _, _ => rfl
  | r :: rs, k, h => by
    obtain ⟨a, b⟩ := h r List.mem_cons_self
    rw [List.map_cons]
    simp only [rowsT, rowT_words hw a b, rowsT_words hw fun z hz => h z (List.mem_cons_of_mem _ hz)]
theorem parse_text {head word : Str} (a1 : 10 ∉ tl head) (a2 : 10 ∉ tl word) (b1 : 32 ∉ tl head) (b2 : 32 ∉ tl word) {f : List Int} {rs : List (List Int)} {size : Nat} (hf : rng f) (h3 : f.length = 3) (hr : ∀ r ∈ rs, rng r ∧ r.length = size) : parseT head word size (textT head word f rs) = .ok (f, rs) := by
  rw [parse_eq (split_text a1 a2 hf fun r h => (hr r h).1), rowT_words b1 hf h3]
  show (match rowsT word size 2 (rs.map (wordsT word)) with
    | .ok rs => Except.ok (f, rs)
    | .error j => Except.error j) = _
  rw [rowsT_words b2 hr]
theorem strOk_ascii {w : Str} (h : ∀ c ∈ tl w, c < 128) : PyData.strOk w = true := strOk_iff.mpr fun c hc => by have := h c hc; omega
theorem words_ascii {word : Str} (hw : ∀ c ∈ tl word, c < 128) {r : List Int} (hr : rng r) : ∀ c ∈ tl (wordsT word r), c < 128 := by
  intro c h
  unfold wordsT at h
  rw [tl_join'] at h
  rcases mem_join_cases h with h | ⟨p, hp, hc⟩
  · rw [spS_tl] at h
    have := List.mem_singleton.mp h
    omega
  · obtain ⟨w, hw', rfl⟩ := List.mem_map.mp hp
    rcases List.mem_cons.mp hw' with rfl | hw'
    · exact hw c hc
    · obtain ⟨n, hn, rfl⟩ := List.mem_map.mp hw'
      obtain ⟨k, rfl⟩ := Int.eq_ofNat_of_zero_le (hr n hn).1
      rw [numS_tl] at hc
      have := (digs_ok k).1 c hc
      omega
theorem text_ascii {head word : Str} (h1 : ∀ c ∈ tl head, c < 128) (h2 : ∀ c ∈ tl word, c < 128) {f : List Int} {rs : List (List Int)} (hf : rng f) (hr : ∀ r ∈ rs, rng r) : ∀ c ∈ tl (textT head word f rs), c < 128 := by
  intro c h
  unfold textT at h
  rw [tl_join'] at h
  rcases mem_join_cases h with h | ⟨p, hp, hc⟩
  · rw [nlS_tl] at h
    have := List.mem_singleton.mp h
    omega
  · obtain ⟨w, hw', rfl⟩ := List.mem_map.mp hp
    rcases List.mem_cons.mp hw' with rfl | hw'
    · exact words_ascii h1 hf c hc
    · obtain ⟨r, hr', rfl⟩ := List.mem_map.mp hw'
      exact words_ascii h2 (hr r hr') c hc
end L2.HW
namespace L2.HW
open PySem PySem.Spec PyProof.Rows L2.HW.G PySem.NumText TL
theorem str_run {n : Int} (h : 0 ≤ n ∧ n < 10 ^ 30) (L : LH) : cStr [.d (.int n)] L = .ok (.d (.str (numS n))) L := by
  have := fine_num h
  simp only [fine, decide_eq_true_eq] at this
  rw [u_cStr]
  simp only [if_pos this]
  rfl
theorem joinL_len {c : Nat} : ∀ {ps : List (List Nat)}, ps ≠ [] → (joinL [c] ps).length + 1 = (ps.map fun p => p.length + 1).sum
  | [a], _ => by
    show a.length + 1 = _
    simp
  | a :: b :: r, _ => by
    show (a ++ ([c] ++ joinL [c] (b :: r))).length + 1 = _
    have := joinL_len (c := c) (ps := b :: r) (by simp)
    rw [List.length_append, List.length_append, List.length_cons, List.length_nil, List.map_cons, List.sum_cons, ← this]
    omega
theorem join_len {y : Str} {c : Nat} (hy : tl y = [c]) {ps : List Str} (h : ps ≠ []) : (Txt.join y ps).length + 1 = (ps.map fun p => p.length + 1).sum := by
  rw [len_tl, tl_join', hy, joinL_len (by simpa using h), List.map_map]
  rfl
theorem sum_le {α : Type} {f : α → Nat} {B : Nat} : ∀ {l : List α}, (∀ x ∈ l, f x ≤ B) → (l.map f).sum ≤ l.length * B
  | [], _ => by simp
  | a :: l, h => by
    have := sum_le (f := f) (B := B) fun x hx => h x (List.mem_cons_of_mem _ hx)
    have := h a List.mem_cons_self
    rw [List.map_cons, List.sum_cons, List.length_cons, Nat.succ_mul]
    omega
theorem words_len {word : Str} {r : List Int} (hr : rng r) : (wordsT word r).length ≤ word.length + 31 * r.length := by
  have e := join_len spS_tl (ps := word :: r.map numS) (by simp)
  have s := sum_le (f := fun p : Str => p.length + 1) (B := 31) (l := r.map numS) fun p hp => by
    obtain ⟨n, hn, rfl⟩ := List.mem_map.mp hp
    have := numS_len (hr n hn)
    show _ + 1 ≤ 31
    omega
  rw [List.map_cons, List.sum_cons] at e
  rw [List.length_map] at s
  show (Txt.join spS (word :: r.map numS)).length ≤ _
  omega
theorem text_len {head word : Str} {f : List Int} {rs : List (List Int)} {B : Nat} (h1 : (wordsT head f).length ≤ B) (h2 : ∀ r ∈ rs, (wordsT word r).length ≤ B) : (textT head word f rs).length ≤ (rs.length + 1) * (B + 1) := by
  have e := join_len nlS_tl (ps := wordsT head f :: rs.map (wordsT word)) (by simp)
  have s := sum_le (f := fun p : Str => p.length + 1) (B := B + 1) (l := rs.map (wordsT word)) fun p hp => by
    obtain ⟨r, hr, rfl⟩ := List.mem_map.mp hp
    have := h2 r hr
    show _ + 1 ≤ B + 1
    omega
  rw [List.map_cons, List.sum_cons] at e
  rw [List.length_map] at s
  show (Txt.join nlS (wordsT head f :: rs.map (wordsT word))).length ≤ _
  rw [Nat.succ_mul]
  omega
theorem joinOk_of {y : Str} {ps : List Str} {B : Nat} (hy : y.length ≤ 1) (h : ∀ p ∈ ps, p.length ≤ B) (hz : ps.length * (B + 1) ≤ 1000000) : joinOk y ps = true := by
  have s := sum_le (f := fun p : Str => p.length) (B := B) (l := ps) h
  unfold joinOk
  rw [decide_eq_true_eq]
  have : ps.length * y.length ≤ ps.length * 1 := Nat.mul_le_mul_left _ hy
  rw [Nat.mul_add] at hz
  omega
theorem join_ev {m : Str} {f : EF} {ys : List Str} {env : En} {L : LH} (h : f env L = .ok (.d (.list (ys.map PyData.str))) L) (ok : joinOk m ys = true) : eJoin (eC (.str m)) f env L = .ok (.d (.str (Txt.join m ys))) L := by
  rw [u_eJoin, u_eC]
  simp only [Res.bind_ok, h, Va.data, strsOf_map, if_pos ok]
theorem nums_ev {i : Nat} {r : List Int} (hr : rng r) (hl : r.length ≤ 1000) {s : Srcf} {env : En} {L : LH} (hs : s env L = .ok (r.map fun n => Va.d (.int n), none) L) (hi : i < env.length) : eDat (fComp s (tN i) tTrue (eCallB cStr (aCons (eVar i) aNil)) [i]) env L = .ok (.d (.list ((r.map numS).map PyData.str))) L := by
  have zs := sizeLine_eq
  have fc := fComp_tym (s := s) (g := tN i) (f := eCallB cStr (aCons (eVar i) aNil)) (vs := [i]) (env := env) (L := L) (fun n : Int => Va.d (.int n)) (fun n => Va.d (.str (numS n))) r hs (by omega) (fun n hn => ⟨(wipeE env [i]).set i (some (.d (.int n))), by simp, by
    have hl : (wipeE env [i]).length = env.length := wipeE_length ..
    have e : ((wipeE env [i]).set i (some (.d (.int n))))[i]? = some (some (.d (.int n))) := List.getElem?_set_self (by omega)
    rw [u_eCallB, u_aCons, u_eVar, e]
    simp only [Res.bind_ok, u_aNil, str_run (hr n hn) L]⟩)
  have e2 : r.map (fun n => Va.d (.str (numS n))) = ((r.map numS).map PyData.str).map Va.d := by rw [List.map_map, List.map_map]; rfl
  rw [u_eDat, fc, e2]
  simp only [Res.bind_ok, va_lst]
theorem cat_ev {f g : EF} {xs ys : List PyData} {env : En} {L : LH} (h1 : f env L = .ok (.d (.list xs)) L) (h2 : g env L = .ok (.d (.list ys)) L) (hz : xs.length + ys.length ≤ 1000000) : eOp opAdd f g env L = .ok (.d (.list (xs ++ ys))) L := by
  have zs := sizeLine_eq
  have k : xs.length + ys.length ≤ 16777216 := by omega
  rw [u_eOp, h1]
  simp [h2, k, zs]
theorem one_ev {f : EF} {x : PyData} {env : En} {L : LH} (h : f env L = .ok (.d x) L) : eDat (fLst (aCons f aNil)) env L = .ok (.d (.list [x])) L := by
  have zs := sizeLine_eq
  have k : 0 + 1 ≤ sizeLine := by omega
  rw [u_eDat, u_fLst, u_aCons, h]
  simp only [Res.bind_ok, u_aNil, List.length_cons, List.length_nil, if_pos k]
  rfl
theorem words_ev {word : Str} {f : EF} {r : List Int} (hr : rng r) (hl : r.length ≤ 1000) (hw : word.length ≤ 100) {env : En} {L : LH} {g : EF} (hf : f env L = .ok (.d (.str word)) L) (hg : g env L = .ok (.d (.list ((r.map numS).map PyData.str))) L) : eJoin (eC (.str " ")) (eOp opAdd (eDat (fLst (aCons f aNil))) g) env L = .ok (.d (.str (wordsT word r))) L := by
  have c := cat_ev (one_ev hf) hg (by simp; omega)
  refine join_ev (ys := word :: r.map numS) c ?_
  refine joinOk_of (B := 100) (by decide +kernel) (fun p hp => ?_) (by simp; omega)
  rcases List.mem_cons.mp hp with rfl | hp
  · exact hw
  · obtain ⟨n, hn, rfl⟩ := List.mem_map.mp hp
    have := numS_len (hr n hn)
    omega
theorem rowsT_one (w : Str) : Txt.join nlS [w] = w := by
  refine ext_tl ?_
  rw [tl_join']
  rfl
theorem rowSrc (r : List Int) (L : LH) : srcOf (.d (rowD r)) L = some (r.map fun n => Va.d (.int n), none) := by
  show some ((r.map PyData.int).map Va.d, none) = _
  rw [List.map_map]
  rfl
theorem rows_text_run {word : Str} (hw : word.length ≤ 100) {r : List Int} (hr : rng r) (hl : r.length ≤ 1000) (L : LH) : F_rows_text [.d (.str word), .d (.list [rowD r])] L = .ok (.d (.str (wordsT word r))) L := by
  have zs := sizeLine_eq
  refine fn_rt (L' := L) (x := .str (wordsT word r)) rfl ?_
  show b_rows_text [some (.d (.str word)), some (.d (.list [rowD r])), none, none] L = _
  have fc := fComp_map (s := srcV (eVar 1)) (g := tN 2) (f := eJoin (eC (.str " ")) (eOp opAdd (eDat (fLst (aCons (eVar 0) aNil))) (eDat (fComp (srcV (eVar 2)) (tN 3) tTrue (eCallB cStr (aCons (eVar 3) aNil)) [3])))) (vs := [2]) (env := [some (.d (.str word)), some (.d (.list [rowD r])), none, none]) (L := L) (xs := [rowD r]) (fun _ => .str (wordsT word r)) (by simp [srcOf]) (by rw [List.length_singleton]; omega) (fun x hx => by
    rw [List.mem_singleton.mp hx]
    refine ⟨[some (.d (.str word)), some (.d (.list [rowD r])), some (.d (rowD r)), none], rfl, ?_⟩
    refine words_ev hr hl hw (by rfl) (nums_ev hr hl (i := 3) ?_ (by simp))
    have := rowSrc r L
    rw [u_srcV, u_eVar]
    simp only [List.getElem?_cons_succ, List.getElem?_cons_zero, Res.bind_ok, this])
  have jo : joinOk nlS [wordsT word r] = true := joinOk_of (B := 100 + 31 * 1000) (by decide +kernel) (fun p hp => by
    rw [List.mem_singleton.mp hp]
    have := words_len (word := word) hr
    omega) (by simp)
  have je := join_ev (m := nlS) (f := eDat (fComp (srcV (eVar 1)) (tN 2) tTrue (eJoin (eC (.str " ")) (eOp opAdd (eDat (fLst (aCons (eVar 0) aNil))) (eDat (fComp (srcV (eVar 2)) (tN 3) tTrue (eCallB cStr (aCons (eVar 3) aNil)) [3])))) [2])) (ys := [wordsT word r]) (env := [some (.d (.str word)), some (.d (.list [rowD r])), none, none]) (L := L) (by
    rw [u_eDat, fc]
    simp only [Res.bind_ok, va_lst]
    rfl) jo
  unfold b_rows_text
  rw [u_sRet, je, rowsT_one]
  rfl
end L2.HW
namespace L2.HW
open PySem PySem.Spec PyProof.Rows L2.HW.G PySem.NumText TL
theorem three_ev {a b c : Int} {rs : List (List Int)} {i : Nat} {env : En} {L : LH} (he : env[i]? = some (some (.d (parD ([a, b, c], rs))))) : eSl (eVar i) pNone (pSome (eC (.int 3))) env L = .ok (.d (rowD [a, b, c])) L := by
  have so : pSome (eC (.int 3)) env L = .ok (some 3) L := by simp
  have sn : pNone env L = .ok none L := by simp
  have op : opSl (.d (parD ([a, b, c], rs))) none (some 3) L = .ok (.d (rowD [a, b, c])) L := by
    show Res.ok (Va.d (.tuple (cutA [PyData.int a, .int b, .int c, .tuple (rs.map rowD)] none (some ((3 : Nat) : Int))))) L = _
    rw [cut_to]
    rfl
  unfold eSl
  rw [u_eVar, he]
  simp only [Res.bind_ok, so, sn, op]
theorem fourth_ev {a b c : Int} {rs : List (List Int)} {i : Nat} {env : En} {L : LH} (he : env[i]? = some (some (.d (parD ([a, b, c], rs))))) : eOp opIx (eVar i) (eC (.int 3)) env L = .ok (.d (.tuple (rs.map rowD))) L := by
  have a0 : atI [Va.d (.int a), Va.d (.int b), Va.d (.int c), Va.d (.tuple (rs.map rowD))] 3 = some (.d (.tuple (rs.map rowD))) := rfl
  have sq : Va.seq L (.d (parD ([a, b, c], rs))) = some [Va.d (.int a), Va.d (.int b), Va.d (.int c), Va.d (.tuple (rs.map rowD))] := rfl
  have dg : Va.dget L (.d (parD ([a, b, c], rs))) (.d (.int 3)) = none := by simp [parD, Va.dget]
  rw [u_eOp, u_eVar, he]
  simp only [Res.bind_ok, u_eC, u_opIx, dg, sq, a0]
theorem rows_va (rs : List (List Int)) : (rs.map rowD).map Va.d = rs.map fun r => Va.d (rowD r) := by rw [List.map_map]; rfl
theorem shape_text_run {a b c : Int} {rs : List (List Int)} (hf : rng [a, b, c]) (hr : ∀ r ∈ rs, rng r ∧ r.length ≤ 1000) (hz : rs.length ≤ 30) (lk : ∀ L, F_look_at_shape [.d (parD ([a, b, c], rs))] L = .ok (.d .none) L) (L : LH) : F_shape_text [.d (parD ([a, b, c], rs))] L = .ok (.d (.str (textT "shape" "pair" [a, b, c] rs))) L := by
  have zs := sizeLine_eq
  have lk := lk L
  have l1 : ("shape" : Str).length ≤ 100 := by decide +kernel
  have l2 : ("pair" : Str).length ≤ 100 := by decide +kernel
  have r0 := rows_text_run (word := "shape") l1 hf (by simp) L
  have e1 : eDat (fLst (aCons (eCall F_rows_text (aCons (eC (.str "shape")) (aCons (eDat (fLst (aCons (eSl (eVar 0) pNone (pSome (eC (.int 3)))) aNil))) aNil))) aNil)) [some (.d (parD ([a, b, c], rs))), none] L = .ok (.d (.list [.str (wordsT "shape" [a, b, c])])) L := by
    refine one_ev ?_
    have t3 := one_ev (three_ev (a := a) (b := b) (c := c) (rs := rs) (i := 0) (env := [some (.d (parD ([a, b, c], rs))), none]) (L := L) rfl)
    rw [u_eCall, u_aCons, u_eC]
    simp only [Res.bind_ok]
    rw [u_aCons, t3]
    simp only [Res.bind_ok, u_aNil, r0]
  have fc := fComp_tym (s := srcV (eOp opIx (eVar 0) (eC (.int 3)))) (g := tN 1) (f := eCall F_rows_text (aCons (eC (.str "pair")) (aCons (eDat (fLst (aCons (eVar 1) aNil))) aNil))) (vs := [1]) (env := [some (.d (parD ([a, b, c], rs))), none]) (L := L) (fun r : List Int => Va.d (rowD r)) (fun r => Va.d (.str (wordsT "pair" r))) rs (by
    have := fourth_ev (a := a) (b := b) (c := c) (rs := rs) (i := 0) (env := [some (.d (parD ([a, b, c], rs))), none]) (L := L) rfl
    have so : srcOf (.d (.tuple (rs.map rowD))) L = some (rs.map fun r => Va.d (rowD r), none) := by rw [← rows_va]; rfl
    rw [u_srcV, this]
    simp only [Res.bind_ok, so]) (by omega) (fun r hr' => ⟨[some (.d (parD ([a, b, c], rs))), some (.d (rowD r))], rfl, by
    obtain ⟨q1, q2⟩ := hr r hr'
    have rr := rows_text_run (word := "pair") l2 q1 q2 L
    have t1 := one_ev (f := eVar 1) (x := rowD r) (env := [some (.d (parD ([a, b, c], rs))), some (.d (rowD r))]) (L := L) rfl
    rw [u_eCall, u_aCons, u_eC]
    simp only [Res.bind_ok]
    rw [u_aCons, t1]
    simp only [Res.bind_ok, u_aNil, rr]⟩)
  have ev2 : rs.map (fun r => Va.d (.str (wordsT "pair" r))) = ((rs.map (wordsT "pair")).map PyData.str).map Va.d := by rw [List.map_map, List.map_map]; rfl
  have e2 : eDat (fComp (srcV (eOp opIx (eVar 0) (eC (.int 3)))) (tN 1) tTrue (eCall F_rows_text (aCons (eC (.str "pair")) (aCons (eDat (fLst (aCons (eVar 1) aNil))) aNil))) [1]) [some (.d (parD ([a, b, c], rs))), none] L = .ok (.d (.list ((rs.map (wordsT "pair")).map PyData.str))) L := by
    rw [u_eDat, fc, ev2]
    simp only [Res.bind_ok, va_lst]
  have je := join_ev (m := nlS) (ys := wordsT "shape" [a, b, c] :: rs.map (wordsT "pair")) (cat_ev e1 e2 (by simp; omega)) (joinOk_of (B := 100 + 31 * 1000) (by decide +kernel) (fun p hp => by
    rcases List.mem_cons.mp hp with rfl | hp
    · have := words_len (word := "shape") hf
      have e3 : [a, b, c].length = 3 := rfl
      omega
    · obtain ⟨r, hr', rfl⟩ := List.mem_map.mp hp
      obtain ⟨q1, q2⟩ := hr r hr'
      have := words_len (word := "pair") q1
      omega) (by rw [List.length_cons, List.length_map]; omega))
  refine fn_rt (L' := L) (x := .str (textT "shape" "pair" [a, b, c] rs)) rfl ?_
  show b_shape_text [some (.d (parD ([a, b, c], rs))), none] L = _
  refine seq_nx (env1 := [some (.d (parD ([a, b, c], rs))), none]) (L1 := L) (by
    generalize parD ([a, b, c], rs) = X at *
    simp [lk]) ?_
  rw [u_sRet, je]
  rfl
theorem l_text_v2_run {a b c : Int} {rs : List (List Int)} (hf : rng [a, b, c]) (hr : ∀ r ∈ rs, rng r ∧ r.length ≤ 1000) (hz : rs.length ≤ 30) (L : LH) : F_l_text_v2 [.d (parD ([a, b, c], rs))] L = .ok (.d (.str (textT "shape" "pair" [a, b, c] rs))) L := by
  have zs := sizeLine_eq
  have l1 : ("shape" : Str).length ≤ 100 := by decide +kernel
  have l2 : ("pair" : Str).length ≤ 100 := by decide +kernel
  obtain ⟨X, hX⟩ : ∃ X, X = parD ([a, b, c], rs) := ⟨_, rfl⟩
  have e1 : eJoin (eC (.str " ")) (eOp opAdd (eDat (fLst (aCons (eC (.str "shape")) aNil))) (eDat (fComp (srcV (eSl (eVar 0) pNone (pSome (eC (.int 3))))) (tN 3) tTrue (eCallB cStr (aCons (eVar 3) aNil)) [3]))) [some (.d X), none, none, none] L = .ok (.d (.str (wordsT "shape" [a, b, c]))) L := by
    refine words_ev hf (by simp) l1 (by rw [u_eC]) (nums_ev hf (by simp) (i := 3) ?_ (by simp))
    have t3 := three_ev (a := a) (b := b) (c := c) (rs := rs) (i := 0) (env := [some (.d X), none, none, none]) (L := L) (by rw [hX]; rfl)
    have := rowSrc [a, b, c] L
    rw [u_srcV, t3]
    simp only [Res.bind_ok, this]
  have s1 : sSet 1 (eNew (fLst (aCons (eJoin (eC (.str " ")) (eOp opAdd (eDat (fLst (aCons (eC (.str "shape")) aNil))) (eDat (fComp (srcV (eSl (eVar 0) pNone (pSome (eC (.int 3))))) (tN 3) tTrue (eCallB cStr (aCons (eVar 3) aNil)) [3])))) aNil))) [some (.d X), none, none, none] L = .nx [some (.d X), some (.loc L.length), none, none] (L ++ [some (.lst (([wordsT "shape" [a, b, c]].map PyData.str).map Va.d))]) := by
    have k : 0 + 1 ≤ sizeLine := by omega
    rw [u_sSet, u_eNew, u_fLst, u_aCons, e1]
    simp only [Res.bind_ok, u_aNil, List.length_cons, List.length_nil, if_pos k, then_ok]
    rfl
  have loop : ∀ (ts : List (List Int)) (acc : List Str) (x2 x3 : Option Va), (∀ r ∈ ts, r ∈ rs) → acc.length + ts.length ≤ 1000000 → ∃ y2 y3, forL (tN 2) b_l_text_v2_1 (ts.map fun r => Va.d (rowD r)) [some (.d X), some (.loc L.length), x2, x3] (L ++ [some (.lst ((acc.map PyData.str).map Va.d))]) = .nx [some (.d X), some (.loc L.length), y2, y3] (L ++ [some (.lst (((acc ++ ts.map (wordsT "pair")).map PyData.str).map Va.d))]) := by
    intro ts
    induction ts with
    | nil => intro acc x2 x3 _ _; exact ⟨x2, x3, by rw [show acc ++ List.map (wordsT "pair") [] = acc by simp]; rfl⟩
    | cons r ts ih =>
      intro acc x2 x3 hm hl
      obtain ⟨q1, q2⟩ := hr r (hm r List.mem_cons_self)
      obtain ⟨y2, y3, e⟩ := ih (acc ++ [wordsT "pair" r]) (some (.d (rowD r))) x3 (fun z h => hm z (List.mem_cons_of_mem _ h)) (by simp only [List.length_append, List.length_cons, List.length_nil] at *; omega)
      refine ⟨y2, y3, ?_⟩
      have g : (L ++ [some (Ob.lst ((acc.map PyData.str).map Va.d))])[L.length]? = some (some (.lst ((acc.map PyData.str).map Va.d))) := app_get
      have k1 : ((acc.map PyData.str).map Va.d).length < sizeLine := by rw [List.length_map, List.length_map]; simp only [List.length_cons] at hl; omega
      have il : isLs (L ++ [some (Ob.lst ((acc.map PyData.str).map Va.d))]) (.loc L.length) = true := by rw [u_isLs]; simp only [g]
      have we : eJoin (eC (.str " ")) (eOp opAdd (eDat (fLst (aCons (eC (.str "pair")) aNil))) (eDat (fComp (srcV (eVar 2)) (tN 3) tTrue (eCallB cStr (aCons (eVar 3) aNil)) [3]))) [some (.d X), some (.loc L.length), some (.d (rowD r)), x3] (L ++ [some (.lst ((acc.map PyData.str).map Va.d))]) = .ok (.d (.str (wordsT "pair" r))) (L ++ [some (.lst ((acc.map PyData.str).map Va.d))]) := by
        refine words_ev q1 q2 l2 (by rw [u_eC]) (nums_ev q1 q2 (i := 3) ?_ (by simp))
        have := rowSrc r (L ++ [some (.lst ((acc.map PyData.str).map Va.d))])
        rw [u_srcV, u_eVar]
        simp only [List.getElem?_cons_succ, List.getElem?_cons_zero, Res.bind_ok, this]
      have bd : b_l_text_v2_1 [some (.d X), some (.loc L.length), some (.d (rowD r)), x3] (L ++ [some (.lst ((acc.map PyData.str).map Va.d))]) = .nx [some (.d X), some (.loc L.length), some (.d (rowD r)), x3] (L ++ [some (.lst (((acc ++ [wordsT "pair" r]).map PyData.str).map Va.d))]) := by
        unfold b_l_text_v2_1
        rw [u_sExpr, u_eMeth, u_eVar]
        simp only [List.getElem?_cons_succ, List.getElem?_cons_zero, Res.bind_ok, il, if_true]
        rw [u_aCons, we]
        simp only [Res.bind_ok, u_aNil, u_mAppend, g, if_pos k1, then_ok]
        rw [List.set_append_right _ _ (Nat.le_refl _)]
        simp
      rw [List.map_cons]
      conv => lhs; unfold forL
      simp only [u_tN, List.set_cons_succ, List.set_cons_zero, bd]
      rw [e, List.append_assoc]
      rfl
  obtain ⟨y2, y3, lp⟩ := loop rs [wordsT "shape" [a, b, c]] none none (fun _ h => h) (by simp; omega)
  have src : srcV (eOp opIx (eVar 0) (eC (.int 3))) [some (.d X), some (.loc L.length), none, none] (L ++ [some (.lst (([wordsT "shape" [a, b, c]].map PyData.str).map Va.d))]) = .ok (rs.map fun r => Va.d (rowD r), none) (L ++ [some (.lst (([wordsT "shape" [a, b, c]].map PyData.str).map Va.d))]) := by
    have := fourth_ev (a := a) (b := b) (c := c) (rs := rs) (i := 0) (env := [some (.d X), some (.loc L.length), none, none]) (L := L ++ [some (.lst (([wordsT "shape" [a, b, c]].map PyData.str).map Va.d))]) (by rw [hX]; rfl)
    have so : ∀ M, srcOf (.d (.tuple (rs.map rowD))) M = some (rs.map fun r => Va.d (rowD r), none) := fun M => by rw [← rows_va]; rfl
    rw [u_srcV, this]
    simp only [Res.bind_ok, so]
  rw [← hX]
  refine fn_rt (L' := L ++ [some (.lst ((([wordsT "shape" [a, b, c]] ++ rs.map (wordsT "pair")).map PyData.str).map Va.d))]) (x := .str (textT "shape" "pair" [a, b, c] rs)) rfl ?_
  show b_l_text_v2 [some (.d X), none, none, none] L = _
  refine seq_nx s1 (seq_nx (for_nx src lp) ?_)
  have ok : joinOk nlS ([wordsT "shape" [a, b, c]] ++ rs.map (wordsT "pair")) = true := joinOk_of (B := 100 + 31 * 1000) (by decide +kernel) (fun p hp => by
    rcases List.mem_cons.mp hp with rfl | hp
    · have := words_len (word := "shape") hf
      have e3 : [a, b, c].length = 3 := rfl
      omega
    · obtain ⟨r, hr', rfl⟩ := List.mem_map.mp hp
      obtain ⟨q1, q2⟩ := hr r hr'
      have := words_len (word := "pair") q1
      omega) (by rw [List.length_append, List.length_map, List.length_singleton]; omega)
  have dt : Va.data (L ++ [some (Ob.lst ((([wordsT "shape" [a, b, c]] ++ rs.map (wordsT "pair")).map PyData.str).map Va.d))]) (.loc L.length) = some (.list (([wordsT "shape" [a, b, c]] ++ rs.map (wordsT "pair")).map PyData.str)) := by
    have g : (L ++ [some (Ob.lst ((([wordsT "shape" [a, b, c]] ++ rs.map (wordsT "pair")).map PyData.str).map Va.d))])[L.length]? = some (some (.lst ((([wordsT "shape" [a, b, c]] ++ rs.map (wordsT "pair")).map PyData.str).map Va.d))) := app_get
    unfold Va.data
    simp only [g, datas_map, Option.map_some]
  rw [u_sRet, u_eJoin, u_eC]
  simp only [Res.bind_ok, u_eVar, List.getElem?_cons_succ, List.getElem?_cons_zero, dt, strsOf_map, if_pos ok, then_ok]
  rfl
end L2.HW
namespace L2.HW
open PySem PySem.Spec PyProof.Rows L2.HW.G PySem.NumText TL
theorem few_parS {p : List Int × List (List Int)} {a b c : Int} {rs : List (List Int)} (h : p = ([a, b, c], rs)) (hl : rs.length ≤ 1000000) : fewS (parD p) := by
  subst h
  have zs := sizeLine_eq
  show 2 + 2 * (rs.map rowD).length < sizeLine
  rw [List.length_map]
  omega
theorem due8_loop {text : Str} {lines : List Str} {f : PyData} {x6 : Option Va} (L : LH) : ∀ (ls : List Str) (k : Nat) (acc : List PyData) (x4 x5 : Option Va), lines.drop k = ls → (∀ l ∈ ls, l.length ≤ 1000000 ∧ PyData.strOk l = true) → acc.length + ls.length ≤ 10000000 →
    (∀ rs, rowsT "pair" 2 (k + 1) ls = .ok rs → ∃ y4 y5, forL (tN 4) b_l_due_v8_1 ((List.range' k ls.length).map fun i : Nat => Va.d (.int (i : Int))) [some (.d (.str text)), some (.d (.list (lines.map PyData.str))), some (.d f), some (.loc L.length), x4, x5, x6] (L ++ [some (.lst (acc.map Va.d))]) = .nx [some (.d (.str text)), some (.d (.list (lines.map PyData.str))), some (.d f), some (.loc L.length), y4, y5, x6] (L ++ [some (.lst ((acc ++ rs.map rowD).map Va.d))])) ∧
    (∀ j, rowsT "pair" 2 (k + 1) ls = .error j → ∃ g, forL (tN 4) b_l_due_v8_1 ((List.range' k ls.length).map fun i : Nat => Va.d (.int (i : Int))) [some (.d (.str text)), some (.d (.list (lines.map PyData.str))), some (.d f), some (.loc L.length), x4, x5, x6] (L ++ [some (.lst (acc.map Va.d))]) = .rt (.d (.int (j : Int))) (L ++ g))
  | [], k, acc, x4, x5, _, _, _ => by
    refine ⟨fun rs h => ?_, fun j h => by cases h⟩
    cases h
    exact ⟨x4, x5, by rw [show acc ++ List.map rowD [] = acc by simp]; rfl⟩
  | l :: ls, k, acc, x4, x5, hd, hl, hz => by
    have zs := sizeLine_eq
    obtain ⟨hl1, hl2⟩ := hl l List.mem_cons_self
    have hk : lines[k]? = some l := by
      have := congrArg List.head? hd
      rw [List.head?_drop] at this
      exact this
    have hd2 : lines.drop (k + 1) = ls := by
      rw [← List.drop_drop, hd]
      rfl
    have rr := l_row_of_run l "pair" 2 hl1 hl2 (by omega) (L ++ [some (.lst (acc.map Va.d))])
    have rr' : F_l_row_of [.d (.str l), .d (.str "pair"), .d (.int 2)] (L ++ [some (.lst (acc.map Va.d))]) = .ok (.d (optT (rowT l "pair" 2))) (L ++ [some (.lst (acc.map Va.d))]) := rr
    have la := line_at hk (i := 1) (j := 4) (env := [some (.d (.str text)), some (.d (.list (lines.map PyData.str))), some (.d f), some (.loc L.length), some (.d (.int (k : Int))), x5, x6]) (L := L ++ [some (.lst (acc.map Va.d))]) rfl rfl
    have s5 : sSet 5 (eCall F_l_row_of (aCons (eOp opIx (eVar 1) (eVar 4)) (aCons (eC (.str "pair")) (aCons (eC (.int 2)) aNil)))) [some (.d (.str text)), some (.d (.list (lines.map PyData.str))), some (.d f), some (.loc L.length), some (.d (.int (k : Int))), x5, x6] (L ++ [some (.lst (acc.map Va.d))]) = .nx [some (.d (.str text)), some (.d (.list (lines.map PyData.str))), some (.d f), some (.loc L.length), some (.d (.int (k : Int))), some (.d (optT (rowT l "pair" 2))), x6] (L ++ [some (.lst (acc.map Va.d))]) := by
      rw [u_sSet, u_eCall, u_aCons, la]
      generalize lines.map PyData.str = A
      simp [rr']
    have step : forL (tN 4) b_l_due_v8_1 ((List.range' k (l :: ls).length).map fun i : Nat => Va.d (.int (i : Int))) [some (.d (.str text)), some (.d (.list (lines.map PyData.str))), some (.d f), some (.loc L.length), x4, x5, x6] (L ++ [some (.lst (acc.map Va.d))]) = match b_l_due_v8_1 [some (.d (.str text)), some (.d (.list (lines.map PyData.str))), some (.d f), some (.loc L.length), some (.d (.int (k : Int))), x5, x6] (L ++ [some (.lst (acc.map Va.d))]) with
      | .nx env2 L2 => forL (tN 4) b_l_due_v8_1 ((List.range' (k + 1) ls.length).map fun i : Nat => Va.d (.int (i : Int))) env2 L2
      | .ct env2 L2 => forL (tN 4) b_l_due_v8_1 ((List.range' (k + 1) ls.length).map fun i : Nat => Va.d (.int (i : Int))) env2 L2
      | .bk env2 L2 => .nx env2 L2
      | o => o := by
      rw [List.length_cons, List.range'_succ, List.map_cons]
      conv => lhs; unfold forL
      (simp only [u_tN, List.set_cons_succ, List.set_cons_zero]) <;> (generalize b_l_due_v8_1 _ _ = o; cases o <;> rfl)
    cases hr : rowT l "pair" 2 with
    | none =>
      refine ⟨fun rs h => by simp [rowsT, hr] at h, fun j h => ?_⟩
      simp only [rowsT, hr, Except.error.injEq] at h
      subst h
      rw [hr] at s5
      have bd : b_l_due_v8_1 [some (.d (.str text)), some (.d (.list (lines.map PyData.str))), some (.d f), some (.loc L.length), some (.d (.int (k : Int))), x5, x6] (L ++ [some (.lst (acc.map Va.d))]) = .rt (.d (.int ((k + 1 : Nat) : Int))) (L ++ [some (.lst (acc.map Va.d))]) := by
        refine seq_nx s5 ?_
        refine seq_rt ?_
        generalize lines.map PyData.str = A
        simp [optT, Va.isN]
      exact ⟨[some (.lst (acc.map Va.d))], by rw [step, bd]⟩
    | some r =>
      rw [hr] at s5
      have bd : b_l_due_v8_1 [some (.d (.str text)), some (.d (.list (lines.map PyData.str))), some (.d f), some (.loc L.length), some (.d (.int (k : Int))), x5, x6] (L ++ [some (.lst (acc.map Va.d))]) = .nx [some (.d (.str text)), some (.d (.list (lines.map PyData.str))), some (.d f), some (.loc L.length), some (.d (.int (k : Int))), some (.d (optT (some r))), x6] (L ++ [some (.lst ((acc ++ [rowD r]).map Va.d))]) := by
        refine seq_nx s5 ?_
        generalize hA : lines.map PyData.str = A
        refine seq_nx (env1 := [some (.d (.str text)), some (.d (.list A)), some (.d f), some (.loc L.length), some (.d (.int (k : Int))), some (.d (optT (some r))), x6]) (L1 := L ++ [some (.lst (acc.map Va.d))]) (by simp [optT, Va.isN]) ?_
        have g : (L ++ [some (Ob.lst (acc.map Va.d))])[L.length]? = some (some (.lst (acc.map Va.d))) := app_get
        have k1 : (acc.map Va.d).length < sizeLine := by rw [List.length_map]; simp only [List.length_cons] at hz; omega
        have il : isLs (L ++ [some (Ob.lst (acc.map Va.d))]) (.loc L.length) = true := by rw [u_isLs]; simp only [g]
        rw [u_sExpr, u_eMeth, u_eVar]
        simp only [List.getElem?_cons_succ, List.getElem?_cons_zero, Res.bind_ok, il, if_true]
        rw [u_aCons, u_eVar]
        simp only [List.getElem?_cons_succ, List.getElem?_cons_zero, Res.bind_ok, u_aNil, u_mAppend, g, if_pos k1, then_ok]
        rw [List.set_append_right _ _ (Nat.le_refl _)]
        simp [optT, rowD]
      obtain ⟨i1, i2⟩ := due8_loop (text := text) (lines := lines) (f := f) (x6 := x6) L ls (k + 1) (acc ++ [rowD r]) (some (.d (.int (k : Int)))) (some (.d (optT (some r)))) hd2 (fun z h => hl z (List.mem_cons_of_mem _ h)) (by simp only [List.length_append, List.length_cons, List.length_nil] at *; omega)
      refine ⟨fun rs h => ?_, fun j h => ?_⟩
      · simp only [rowsT, hr] at h
        split at h
        · rename_i rs' h2
          cases h
          obtain ⟨y4, y5, e⟩ := i1 rs' h2
          refine ⟨y4, y5, ?_⟩
          rw [step, bd]
          show forL _ _ _ _ _ = _
          rw [e, List.map_cons, List.append_assoc]
          rfl
        · cases h
      · simp only [rowsT, hr] at h
        split at h
        · cases h
        · rename_i j' h2
          cases h
          obtain ⟨g, e⟩ := i2 j h2
          exact ⟨g, by rw [step, bd]; exact e⟩
theorem read_shape_run (text : Str) (hl : text.length ≤ 1000000) (L : LH) : F_read_shape [.d (.str text)] L = match parseT "shape" "pair" 2 text with
    | .error j => .exc "NoText" (some (.int (j : Int))) L
    | .ok p => if shapeB (parD p) then .ok (.d (parD p)) L else .exc "NoText" (some (.int (((Txt.split text nlS).length + 1 : Nat) : Int))) L := by
  have zs := sizeLine_eq
  have rr := rows_read_run text "shape" "pair" 2 hl (by omega) L
  cases hp : parseT "shape" "pair" 2 text with
  | error j =>
    rw [hp] at rr
    refine fn_exc (g := []) (env' := [some (.d (.str text)), none]) rfl ?_
    rw [List.append_nil]
    refine seq_exc ?_
    have rr' : F_rows_read [.d (.str text), .d (.str "shape"), .d (.str "pair"), .d (.int 2)] L = .exc "NoText" (some (.int (j : Int))) L := rr
    simp [rr']
  | ok p =>
    rw [hp] at rr
    have rr' : F_rows_read [.d (.str text), .d (.str "shape"), .d (.str "pair"), .d (.int 2)] L = .ok (.d (parD p)) L := rr
    obtain ⟨a, b, c, rs, hpe, _, _, hrs⟩ := parse_parts hp
    have wb := F_is_right_shape_eq (parD p) (few_parS hpe (by omega)) L
    have nn : Va.isN (.d (parD p)) = false := rfl
    show F_read_shape [.d (.str text)] L = if shapeB (parD p) = true then .ok (.d (parD p)) L else .exc "NoText" (some (.int (((Txt.split text nlS).length + 1 : Nat) : Int))) L
    generalize hX : parD p = X at *
    have sp := split_ev (i := 0) (x := text) (m := nlS) (env := [some (.d (.str text)), some (.d X)]) (L := L) rfl nl_len hl
    have ll := split_nl text
    by_cases hw : shapeB X = true
    · rw [hw] at wb
      rw [if_pos hw]
      refine fn_rt (L' := L) (x := X) rfl ?_
      refine seq_nx (env1 := [some (.d (.str text)), some (.d X)]) (L1 := L) (by simp [rr']) ?_
      simp [wb]
    · have hw2 := Bool.eq_false_iff.mpr hw
      rw [hw2] at wb
      rw [if_neg hw]
      refine fn_exc (g := []) (env' := [some (.d (.str text)), some (.d X)]) rfl ?_
      rw [List.append_nil]
      refine seq_nx (env1 := [some (.d (.str text)), some (.d X)]) (L1 := L) (by simp [rr']) ?_
      refine seq_exc ?_
      have tst : tNotF (tVal (eCall F_is_right_shape (aCons (eVar 1) aNil))) [some (.d (.str text)), some (.d X)] L = .ok true L := by simp [wb]
      have ra : sRaiseV "NoText" (aCons (eOp opAdd (eCallB cLen (aCons (eDat (fSplit (eVar 0) (eC (.str "\n")))) aNil)) (eC (.int 1))) aNil) [some (.d (.str text)), some (.d X)] L = .exc "NoText" (some (.int (((Txt.split text nlS).length + 1 : Nat) : Int))) [some (.d (.str text)), some (.d X)] L := by
        rw [u_sRaiseV, u_aCons, u_eOp, u_eCallB, u_aCons, sp]
        simp
      rw [u_sIf, tst]
      simp only [then_ok, if_true]
      exact ra
theorem due8_run (text : Str) (hl : text.length ≤ 100000) (hk : PyData.strOk text = true) (L : LH) : F_l_due_v8 [.d (.str text)] L = .ok (.d (dueT shapeB "shape" "pair" 2 text)) L := by
  have zs := sizeLine_eq
  obtain ⟨l0, ls, hsp, h0, hn, hw⟩ := lines_of text
  have oks : ∀ l ∈ l0 :: ls, PyData.strOk l = true := fun l h => strOk_part hk (by rw [hsp]; exact h)
  have s1 : sSet 1 (eDat (fSplit (eVar 0) (eC (.str "\n")))) [some (.d (.str text)), none, none, none, none, none, none] L = .nx [some (.d (.str text)), some (.d (.list ((l0 :: ls).map PyData.str))), none, none, none, none, none] L := by
    have := split_ev (i := 0) (x := text) (m := nlS) (env := [some (.d (.str text)), none, none, none, none, none, none]) (L := L) rfl nl_len (by omega)
    rw [hsp] at this
    rw [u_sSet, this]
    rfl
  have r0 := l_row_of_run l0 "shape" 3 (by omega) (oks l0 List.mem_cons_self) (by omega) L
  have r0' : F_l_row_of [.d (.str l0), .d (.str "shape"), .d (.int 3)] L = .ok (.d (optT (rowT l0 "shape" 3))) L := r0
  have s2 : sSet 2 (eCall F_l_row_of (aCons (eOp opIx (eVar 1) (eC (.int 0))) (aCons (eC (.str "shape")) (aCons (eC (.int 3)) aNil)))) [some (.d (.str text)), some (.d (.list ((l0 :: ls).map PyData.str))), none, none, none, none, none] L = .nx [some (.d (.str text)), some (.d (.list ((l0 :: ls).map PyData.str))), some (.d (optT (rowT l0 "shape" 3))), none, none, none, none] L := by
    have fl := first_line (l0 := l0) (ls := ls) (i := 1) (env := [some (.d (.str text)), some (.d (.list ((l0 :: ls).map PyData.str))), none, none, none, none, none]) (L := L) rfl
    rw [u_sSet, u_eCall, u_aCons, fl]
    generalize (l0 :: ls).map PyData.str = A
    simp [r0']
  unfold dueT
  have pe := parse_eq (head := "shape") (word := "pair") (size := 2) hsp
  cases hr : rowT l0 "shape" 3 with
  | none =>
    rw [hr] at s2 pe
    rw [pe]
    refine fn_rt (L' := L) (x := .int ((1 : Nat) : Int)) rfl ?_
    show b_l_due_v8 [some (.d (.str text)), none, none, none, none, none, none] L = _
    refine seq_nx s1 (seq_nx s2 (seq_rt ?_))
    generalize (l0 :: ls).map PyData.str = A
    simp [optT, Va.isN]
  | some f =>
    rw [hr] at s2 pe
    have pe : parseT "shape" "pair" 2 text = match rowsT "pair" 2 2 ls with
      | .ok rs => .ok (f, rs)
      | .error j => .error j := pe
    have s3 : sIf (tVal (eOp opIsN (eVar 2) (eC .none))) (sRet (eC (.int 1))) sNil [some (.d (.str text)), some (.d (.list ((l0 :: ls).map PyData.str))), some (.d (optT (some f))), none, none, none, none] L = .nx [some (.d (.str text)), some (.d (.list ((l0 :: ls).map PyData.str))), some (.d (optT (some f))), none, none, none, none] L := by
      generalize (l0 :: ls).map PyData.str = A
      simp [optT, Va.isN]
    have s4 : sSet 3 (eNew (fLst aNil)) [some (.d (.str text)), some (.d (.list ((l0 :: ls).map PyData.str))), some (.d (optT (some f))), none, none, none, none] L = .nx [some (.d (.str text)), some (.d (.list ((l0 :: ls).map PyData.str))), some (.d (optT (some f))), some (.loc L.length), none, none, none] (L ++ [some (.lst (([] : List PyData).map Va.d))]) := by
      generalize (l0 :: ls).map PyData.str = A
      simp
    have src : srcR2 (aCons (eC (.int 1)) (aCons (eCallB cLen (aCons (eVar 1) aNil)) aNil)) [some (.d (.str text)), some (.d (.list ((l0 :: ls).map PyData.str))), some (.d (optT (some f))), some (.loc L.length), none, none, none] (L ++ [some (.lst (([] : List PyData).map Va.d))]) = .ok ((List.range' 1 ls.length).map fun i : Nat => Va.d (.int (i : Int)), none) (L ++ [some (.lst (([] : List PyData).map Va.d))]) := by
      have ln : ((l0 :: ls).map PyData.str).length = ls.length + 1 := by simp
      have := srcR2_nat (fs := aCons (eC (.int 1)) (aCons (eCallB cLen (aCons (eVar 1) aNil)) aNil)) (a := 1) (b := ls.length + 1) (env := [some (.d (.str text)), some (.d (.list ((l0 :: ls).map PyData.str))), some (.d (optT (some f))), some (.loc L.length), none, none, none]) (L := L ++ [some (.lst (([] : List PyData).map Va.d))]) (L1 := L ++ [some (.lst (([] : List PyData).map Va.d))]) (by
        rw [← ln]
        generalize (l0 :: ls).map PyData.str = A
        simp) (by omega) (by omega)
      exact this
    obtain ⟨i1, i2⟩ := due8_loop (text := text) (lines := l0 :: ls) (f := optT (some f)) (x6 := none) L ls 1 [] none none rfl (fun l h => ⟨by have := hw l h; omega, oks l (List.mem_cons_of_mem _ h)⟩) (by simp only [List.length_nil]; omega)
    cases hR : rowsT "pair" 2 2 ls with
    | error j =>
      obtain ⟨g, e⟩ := i2 j hR
      rw [hR] at pe
      rw [pe]
      refine fn_rt (L' := L ++ g) (x := .int (j : Int)) rfl ?_
      show b_l_due_v8 [some (.d (.str text)), none, none, none, none, none, none] L = _
      exact seq_nx s1 (seq_nx s2 (seq_nx s3 (seq_nx s4 (seq_rt (for_rt src e)))))
    | ok rs =>
      obtain ⟨y4, y5, e⟩ := i1 rs hR
      rw [hR] at pe
      have pe : parseT "shape" "pair" 2 text = .ok (f, rs) := pe
      obtain ⟨a, b, c, rs', hpe, hb1, hb2, hrs⟩ := parse_parts pe
      cases hpe
      rw [pe]
      have lr := rowsT_len hR
      have wb := F_l_is_shape_eq (parD ([a, b, c], rs)) (few_parS rfl (by omega)) (L ++ [some (.lst ((rs.map rowD).map Va.d))])
      have g : (L ++ [some (Ob.lst ((rs.map rowD).map Va.d))])[L.length]? = some (some (.lst ((rs.map rowD).map Va.d))) := app_get
      have it : Va.items (L ++ [some (Ob.lst ((rs.map rowD).map Va.d))]) (.loc L.length) = some ((rs.map rowD).map Va.d) := by unfold Va.items; simp only [g]
      have ll : (l0 :: ls).length = (Txt.split text nlS).length := by rw [hsp]
      have goal : ∀ o, b_l_due_v8 [some (.d (.str text)), none, none, none, none, none, none] L = .rt (.d o) (L ++ [some (.lst ((rs.map rowD).map Va.d))]) → F_l_due_v8 [.d (.str text)] L = .ok (.d o) L := fun o h => by
        refine fn_rt (L' := L ++ [some (Ob.lst ((rs.map rowD).map Va.d))]) (x := o) rfl ?_
        exact h
      show F_l_due_v8 [.d (.str text)] L = .ok (.d (if shapeB (parD ([a, b, c], rs)) = true then parD ([a, b, c], rs) else .int (((Txt.split text nlS).length + 1 : Nat) : Int))) L
      refine goal _ ?_
      refine seq_nx s1 (seq_nx s2 (seq_nx s3 (seq_nx s4 (seq_nx (for_nx src e) ?_))))
      rw [List.nil_append]
      have ls2 : ((l0 :: ls).map PyData.str).length = (Txt.split text nlS).length := by rw [List.length_map, ll]
      generalize (l0 :: ls).map PyData.str = A at *
      generalize hR2 : rs.map rowD = R at *
      have ct : eCallB cTuple (aCons (eVar 3) aNil) [some (.d (.str text)), some (.d (.list A)), some (.d (optT (some [a, b, c]))), some (.loc L.length), y4, y5, none] (L ++ [some (.lst (R.map Va.d))]) = .ok (.d (.tuple R)) (L ++ [some (.lst (R.map Va.d))]) := by
        rw [u_eCallB, u_aCons, u_eVar]
        simp only [List.getElem?_cons_succ, List.getElem?_cons_zero, Res.bind_ok, u_aNil, u_cTuple, it, mkTup_map]
      have px : parD ([a, b, c], rs) = .tuple [.int a, .int b, .int c, .tuple R] := by rw [← hR2]; rfl
      rw [px] at wb ⊢
      have s6 : sSet 6 (eTup (aCons (eOp opIx (eVar 2) (eC (.int 0))) (aCons (eOp opIx (eVar 2) (eC (.int 1))) (aCons (eOp opIx (eVar 2) (eC (.int 2))) (aCons (eCallB cTuple (aCons (eVar 3) aNil)) aNil))))) [some (.d (.str text)), some (.d (.list A)), some (.d (optT (some [a, b, c]))), some (.loc L.length), y4, y5, none] (L ++ [some (.lst (R.map Va.d))]) = .nx [some (.d (.str text)), some (.d (.list A)), some (.d (optT (some [a, b, c]))), some (.loc L.length), y4, y5, some (.d (.tuple [.int a, .int b, .int c, .tuple R]))] (L ++ [some (.lst (R.map Va.d))]) := by
        have i0 : ∀ (i : Nat) (v : Int), [a, b, c][i]? = some v → eOp opIx (eVar 2) (eC (.int (i : Int))) [some (.d (.str text)), some (.d (.list A)), some (.d (optT (some [a, b, c]))), some (.loc L.length), y4, y5, none] (L ++ [some (.lst (R.map Va.d))]) = .ok (.d (.int v)) (L ++ [some (.lst (R.map Va.d))]) := fun i v h => by
          have hi : i < 3 := (List.getElem?_eq_some_iff.mp h).1
          have at' : atI [Va.d (.int a), Va.d (.int b), Va.d (.int c)] (i : Int) = some (.d (.int v)) := by
            match i, hi, h with
            | 0, _, h => cases h; rfl
            | 1, _, h => cases h; rfl
            | 2, _, h => cases h; rfl
          rw [u_eOp, u_eVar]
          simp only [List.getElem?_cons_succ, List.getElem?_cons_zero, Res.bind_ok, u_eC, u_opIx, dget_d, optT, seq_tuple, List.map_cons, List.map_nil, at']
        have j0 := i0 0 a rfl
        have j1 := i0 1 b rfl
        have j2 := i0 2 c rfl
        have k4 : 0 + 1 + 1 + 1 + 1 ≤ sizeLine := by omega
        have mk : mkTup [Va.d (.int a), .d (.int b), .d (.int c), .d (.tuple R)] = .d (.tuple [.int a, .int b, .int c, .tuple R]) := rfl
        have j0' : eOp opIx (eVar 2) (eC (.int 0)) [some (.d (.str text)), some (.d (.list A)), some (.d (optT (some [a, b, c]))), some (.loc L.length), y4, y5, none] (L ++ [some (.lst (R.map Va.d))]) = .ok (.d (.int a)) (L ++ [some (.lst (R.map Va.d))]) := j0
        have j1' : eOp opIx (eVar 2) (eC (.int 1)) [some (.d (.str text)), some (.d (.list A)), some (.d (optT (some [a, b, c]))), some (.loc L.length), y4, y5, none] (L ++ [some (.lst (R.map Va.d))]) = .ok (.d (.int b)) (L ++ [some (.lst (R.map Va.d))]) := j1
        have j2' : eOp opIx (eVar 2) (eC (.int 2)) [some (.d (.str text)), some (.d (.list A)), some (.d (optT (some [a, b, c]))), some (.loc L.length), y4, y5, none] (L ++ [some (.lst (R.map Va.d))]) = .ok (.d (.int c)) (L ++ [some (.lst (R.map Va.d))]) := j2
        rw [u_sSet, u_eTup, u_aCons, j0']
        simp only [Res.bind_ok]
        rw [u_aCons, j1']
        simp only [Res.bind_ok]
        rw [u_aCons, j2']
        simp only [Res.bind_ok]
        rw [u_aCons, ct]
        simp only [Res.bind_ok, u_aNil, List.length_cons, List.length_nil, if_pos k4, mk, then_ok]
        rfl
      refine seq_nx s6 ?_
      by_cases hw : shapeB (.tuple [.int a, .int b, .int c, .tuple R]) = true
      · rw [hw] at wb
        rw [if_pos hw]
        generalize hX : PyData.tuple [.int a, .int b, .int c, .tuple R] = X at *
        refine seq_nx (env1 := [some (.d (.str text)), some (.d (.list A)), some (.d (optT (some [a, b, c]))), some (.loc L.length), y4, y5, some (.d X)]) (L1 := L ++ [some (.lst (R.map Va.d))]) (by simp [wb]) ?_
        simp
      · have hw2 := Bool.eq_false_iff.mpr hw
        rw [hw2] at wb
        rw [if_neg hw]
        generalize hX : PyData.tuple [.int a, .int b, .int c, .tuple R] = X at *
        refine seq_rt ?_
        rw [← ls2]
        simp [wb]
end L2.HW
namespace L2.HW
open PySem PySem.Spec PyProof.Rows L2.HW.G PySem.NumText TL
theorem word_text (x : PyData) (L : LH) : F_l_word_of [.exc "NoText" (some x)] L = .ok (.d (.str "text")) L :=
  word_gen (F := fun y => isErr "NoText" y || decide (y = "ValueError")) L (fun y _ env he => by
    have hc : ("NoText" : Str) ∈ ten := by decide
    simp [he, hc]) (.inr ⟨by rw [chosen, show chosenS (fun y => isErr "NoText" y || decide (y = "ValueError")) = (["text", "value", "error"] : List Str) from by decide +kernel]; rfl, cmpOk_of (by decide +kernel) (by decide +kernel)⟩)
theorem show_nat (n : Nat) (h : n ≤ 1000000) : okShow (.int (n : Int)) := by
  have f : fine (.int (n : Int)) = true := fine_num ⟨Int.natCast_nonneg _, by
    have e : ((10 : Int) ^ 30) = ((10 ^ 30 : Nat) : Int) := by decide +kernel
    have : (1000000 : Nat) < 10 ^ 30 := by decide +kernel
    rw [e]
    omega⟩
  exact okShow_of f (by simp [PyData.depth]) (by simp [PyData.bulk])
theorem show_par {a b c : Int} {rs : List (List Int)} (hf : ∀ n ∈ [a, b, c], 0 ≤ n ∧ n < 10 ^ 30) (hr : ∀ r ∈ rs, r.length ≤ 4 ∧ ∀ n ∈ r, 0 ≤ n ∧ n < 10 ^ 30) (hz : rs.length ≤ 700) : okShow (parD ([a, b, c], rs)) := by
  have go : ∀ l : List (List Int), (∀ r ∈ l, r.length ≤ 4 ∧ ∀ n ∈ r, 0 ≤ n ∧ n < 10 ^ 30) → fineAll (l.map rowD) = true ∧ PyData.depthAll (l.map rowD) ≤ 1 ∧ PyData.bulkAll (l.map rowD) ≤ 11 * l.length := by
    intro l
    induction l with
    | nil => intro _; simp [fineAll, PyData.depthAll, PyData.bulkAll]
    | cons r l ih =>
      intro h
      obtain ⟨i1, i2, i3⟩ := ih fun x hx => h x (List.mem_cons_of_mem _ hx)
      obtain ⟨q1, q2⟩ := h r List.mem_cons_self
      obtain ⟨k1, k2, k3⟩ := fine_row q2
      refine ⟨by simp [fineAll, k1, i1], ?_, ?_⟩
      · simp only [List.map_cons, PyData.depthAll]
        omega
      · simp only [List.map_cons, PyData.bulkAll, List.length_cons]
        omega
  obtain ⟨g1, g2, g3⟩ := go rs hr
  have fa := fine_num (hf a (by simp))
  have fb := fine_num (hf b (by simp))
  have fc := fine_num (hf c (by simp))
  refine okShow_of ?_ ?_ ?_
  · rw [par_eq]
    simp [fine, fineAll] at fa fb fc ⊢
    exact ⟨fa, fb, fc, g1⟩
  · rw [par_eq]
    simp only [PyData.depth, PyData.depthAll]
    omega
  · rw [par_eq]
    simp only [PyData.bulk, PyData.bulkAll]
    omega
theorem errT_le {word : Str} {size : Nat} : ∀ {k : Nat} {ls : List Str} {j : Nat}, rowsT word size k ls = .error j → j ≤ k + ls.length
  | _, [], j, h => by cases h
  | k, l :: ls, j, h => by
    simp only [rowsT] at h
    split at h
    · cases h
      omega
    · split at h
      · cases h
      · rename_i j' h2
        cases h
        have := errT_le h2
        simp only [List.length_cons]
        omega
theorem err_le {head word : Str} {size : Nat} {text : Str} {j : Nat} (h : parseT head word size text = .error j) : j ≤ text.length + 2 := by
  obtain ⟨l0, ls, hsp, h0, hn, hw⟩ := lines_of text
  rw [parse_eq hsp] at h
  split at h
  · cases h
    omega
  · split at h
    · cases h
    · rename_i j' h2
      cases h
      have := errT_le h2
      omega
theorem both8_run (text : Str) (hl : text.length ≤ 700) (hk : PyData.strOk text = true) (L : LH) : F_l_both_v2 [.d (.str text)] L = .ok (.d (.bool true)) L := by
  have zs := sizeLine_eq
  have rr := read_shape_run text (by omega) L
  have du := due8_run text (by omega) hk L
  have wd := fun x => word_text x L
  have t1 : ("NoText" : Str) ∈ ten := by decide
  unfold dueT at du
  refine fn_rt (L' := L) (x := .bool true) rfl ?_
  show b_l_both_v2 [some (.d (.str text)), none, none, none, none] L = _
  have err : ∀ j : Nat, j ≤ 1000000 → F_read_shape [.d (.str text)] L = .exc "NoText" (some (.int (j : Int))) L → F_l_due_v8 [.d (.str text)] L = .ok (.d (.int (j : Int))) L → b_l_both_v2 [some (.d (.str text)), none, none, none, none] L = .rt (.d (.bool true)) L := fun j hj r d => by
    have sh := show_nat j hj
    have wd := wd (.int (j : Int))
    generalize hS : (PyData.int (j : Int)).shown = S
    have sm := str_same S
    have so := str_ok S S
    have sm2 := str_same "text"
    have so2 := str_ok "text" "text"
    refine seq_nx (env1 := [some (.d (.str text)), some (.d (.int (j : Int))), none, none, none]) (L1 := L) (by simp [d]) ?_
    refine seq_nx (env1 := [some (.d (.str text)), some (.d (.int (j : Int))), some (.d .none), none, none]) (L1 := L) (by simp) ?_
    refine seq_nx (env1 := [some (.d (.str text)), some (.d (.int (j : Int))), some (.d .none), some (.d .none), none]) (L1 := L) (by simp) ?_
    refine seq_nx (env1 := [some (.d (.str text)), some (.d (.int (j : Int))), some (.d .none), some (.exc "NoText" (some (.int (j : Int)))), none]) (L1 := L) (by simp [r, t1]) ?_
    refine seq_rt ?_
    simp [wd, sh, hS, sm, so, sm2, so2, Va.isN]
  cases hp : parseT "shape" "pair" 2 text with
  | error j =>
    rw [hp] at rr du
    have := err_le hp
    exact err j (by omega) rr du
  | ok p =>
    rw [hp] at rr du
    obtain ⟨a, b, c, rs, hpe, h1, h2, h3⟩ := parse_parts hp
    by_cases hw : shapeB (parD p) = true
    · have rr : F_read_shape [.d (.str text)] L = if shapeB (parD p) = true then .ok (.d (parD p)) L else .exc "NoText" (some (.int (((Txt.split text nlS).length + 1 : Nat) : Int))) L := rr
      have du : F_l_due_v8 [.d (.str text)] L = .ok (.d (if shapeB (parD p) = true then parD p else .int (((Txt.split text nlS).length + 1 : Nat) : Int))) L := du
      rw [if_pos hw] at rr du
      have sh : okShow (parD p) := by
        rw [hpe]
        exact show_par h1 (fun r hr => ⟨by have := (h2 r hr).1; omega, (h2 r hr).2⟩) (by omega)
      generalize hX : parD p = X at *
      generalize hS : X.shown = S
      have sm := str_same S
      have so := str_ok S S
      refine seq_nx (env1 := [some (.d (.str text)), some (.d X), none, none, none]) (L1 := L) (by simp [du]) ?_
      refine seq_nx (env1 := [some (.d (.str text)), some (.d X), some (.d .none), none, none]) (L1 := L) (by simp) ?_
      refine seq_nx (env1 := [some (.d (.str text)), some (.d X), some (.d .none), some (.d .none), none]) (L1 := L) (by simp) ?_
      refine seq_nx (env1 := [some (.d (.str text)), some (.d X), some (.d X), some (.d .none), none]) (L1 := L) (by simp [rr]) ?_
      refine seq_nx (env1 := [some (.d (.str text)), some (.d X), some (.d X), some (.d .none), none]) (L1 := L) (by simp [Va.isN]) ?_
      simp [sh, hS, sm, so]
    · have rr : F_read_shape [.d (.str text)] L = if shapeB (parD p) = true then .ok (.d (parD p)) L else .exc "NoText" (some (.int (((Txt.split text nlS).length + 1 : Nat) : Int))) L := rr
      have du : F_l_due_v8 [.d (.str text)] L = .ok (.d (if shapeB (parD p) = true then parD p else .int (((Txt.split text nlS).length + 1 : Nat) : Int))) L := du
      rw [if_neg hw] at rr du
      have := (split_nl text).2.1
      exact err _ (by omega) rr du
end L2.HW
namespace L2.HW
open PySem PySem.Spec PyProof.Rows L2.HW.G PySem.NumText TL
theorem tl_cutS (z : Str) (lo hi : Option Int) : tl (cutS z lo hi) = cutA (tl z) lo hi := by
  unfold cutS cutA
  rw [len_tl]
theorem cutS_to (z : Str) (k : Nat) : tl (cutS z none (some (k : Int))) = (tl z).take k := by rw [tl_cutS, cut_to]
theorem cutS_from (z : Str) (k : Nat) : tl (cutS z (some (k : Int)) none) = (tl z).drop k := by rw [tl_cutS, cut_from]
theorem ssl_to {i j : Nat} {z : Str} {k : Nat} (hz : z.length ≤ 1000000) {env : En} {L : LH} (h : env[i]? = some (some (.d (.str z)))) {g : EF} (hg : g env L = .ok (.d (.int (k : Int))) L) : eSl (eVar i) pNone (pSome g) env L = .ok (.d (.str (cutS z none (some (k : Int))))) L := by
  have zs := sizeLine_eq
  have kk : z.length ≤ sizeLine := by omega
  have so : pSome g env L = .ok (some (k : Int)) L := by simp [hg]
  have sn : pNone env L = .ok none L := by simp
  have op : opSl (.d (.str z)) none (some (k : Int)) L = .ok (.d (.str (cutS z none (some (k : Int))))) L := by
    show (if z.length ≤ sizeLine then _ else _) = _
    rw [if_pos kk]
  unfold eSl
  rw [u_eVar, h]
  simp only [Res.bind_ok, so, sn, op]
theorem ssl_from {i : Nat} {z : Str} {k : Nat} (hz : z.length ≤ 1000000) {env : En} {L : LH} (h : env[i]? = some (some (.d (.str z)))) {g : EF} (hg : g env L = .ok (.d (.int (k : Int))) L) : eSl (eVar i) (pSome g) pNone env L = .ok (.d (.str (cutS z (some (k : Int)) none))) L := by
  have zs := sizeLine_eq
  have kk : z.length ≤ sizeLine := by omega
  have so : pSome g env L = .ok (some (k : Int)) L := by simp [hg]
  have sn : pNone env L = .ok none L := by simp
  have op : opSl (.d (.str z)) (some (k : Int)) none L = .ok (.d (.str (cutS z (some (k : Int)) none))) L := by
    show (if z.length ≤ sizeLine then _ else _) = _
    rw [if_pos kk]
  unfold eSl
  rw [u_eVar, h]
  simp only [Res.bind_ok, so, sn, op]
theorem lsl_from {f g : EF} {xs : List PyData} {env : En} {L : LH} {i : Nat} (h : f env L = .ok (.d (.list xs)) L) (hg : g env L = .ok (.d (.int (i : Int))) L) : eSl f (pSome g) pNone env L = .ok (.d (.list (xs.drop i))) L := by
  have c : cutA (xs.map Va.d) (some (i : Int)) none = (xs.drop i).map Va.d := by rw [cut_from, List.map_drop]
  have d : datas ((xs.drop i).map Va.d) = some (xs.drop i) := datas_map _
  have so : pSome g env L = .ok (some (i : Int)) L := by simp [hg]
  have sn : pNone env L = .ok none L := by simp
  have op : opSl (.d (.list xs)) (some (i : Int)) none L = .ok (.d (.list (xs.drop i))) L := by
    show (match datas (cutA (xs.map Va.d) (some (i : Int)) none) with
      | some ys => Res.ok (Va.d (.list ys)) L
      | none => .stuck) = _
    rw [c, d]
  unfold eSl
  rw [h]
  simp only [Res.bind_ok, so, sn, op]
theorem add_str_ev {f g : EF} {a b : Str} {env : En} {L M : LH} (h1 : f env L = .ok (.d (.str a)) L) (h2 : g env L = .ok (.d (.str b)) M) (hz : a.length + b.length ≤ 1000000) : eOp opAdd f g env L = .ok (.d (.str (a ++ b))) M := by
  have zs := sizeLine_eq
  have k : a.length + b.length ≤ 16777216 := by omega
  rw [u_eOp, h1]
  simp [h2, k, zs]
def okW (t : Str) (n : Nat) : Prop := PyData.strOk t = true ∧ t.length ≤ n
theorem len_app (a b : Str) : (a ++ b).length = a.length + b.length := by rw [len_tl, tl_append, List.length_append, ← len_tl, ← len_tl]
def sgnS : Str := "01239 \nwebroadshpi-_A"
def wrdS : List Str := ["web", "road", "shape", "pair", "0", "1", "2", "00", "-1", "", strRep 31 "1", "road 0 1 1 1", "pair 0 1", strRep 30 "1"]
theorem wrdS_ok : ∀ w ∈ wrdS, okW w 31 := by
  have : ∀ w ∈ wrdS, (PyData.strOk w && decide (w.length ≤ 31)) = true := by decide +kernel
  intro w hw
  have h := this w hw
  rw [Bool.and_eq_true, decide_eq_true_eq] at h
  exact h
theorem sgnS_ok : sgnS.length = 21 ∧ PyData.strOk sgnS = true := by decide +kernel
theorem join_swap {y : Str} {c : Nat} (hy : tl y = [c]) (hc : c < 0x110000) {x : Str} {n : Nat} (hx : okW x n) {i : Nat} (hi : i < (Txt.split x y).length) (hs : y.cps.all (· < 256) = true) {ws : List Str} {m : Nat} (hw : ws = [] ∨ ∃ w, ws = [w] ∧ okW w m) : okW (Txt.join y ((Txt.split x y).take i ++ ws ++ (Txt.split x y).drop (i + 1))) (n + m) := by
  obtain ⟨h1, h2⟩ := hx
  obtain ⟨s1, s2, s3⟩ := split_fact hy hs x
  have ej : Txt.join y (Txt.split x y) = x := by rw [TL.join_eq]; exact PySem.StrLaws.join_split x y
  have el := join_len hy s1
  rw [ej] at el
  have okp : ∀ p ∈ Txt.split x y, PyData.strOk p = true := fun p hp => strOk_part h1 hp
  generalize Txt.split x y = ps at *
  have e3 : ps = ps.take i ++ [ps[i]] ++ ps.drop (i + 1) := by
    rw [List.append_assoc, List.singleton_append, List.getElem_cons_drop, List.take_append_drop]
  have sum : (ps.map fun p => p.length + 1).sum = ((ps.take i).map fun p => p.length + 1).sum + (ps[i].length + 1) + ((ps.drop (i + 1)).map fun p => p.length + 1).sum := by
    conv => lhs; rw [e3]
    rw [List.map_append, List.map_append, List.sum_append, List.sum_append]
    simp
  refine ⟨strOk_iff.mpr fun d hd => ?_, ?_⟩
  · rw [tl_join', hy] at hd
    rcases mem_join_cases hd with hd | ⟨p, hp, hd2⟩
    · have := List.mem_singleton.mp hd
      omega
    · obtain ⟨w, hw', rfl⟩ := List.mem_map.mp hp
      rcases List.mem_append.mp hw' with hw' | hw'
      · rcases List.mem_append.mp hw' with hw' | hw'
        · exact strOk_iff.mp (okp w (List.mem_of_mem_take hw')) d hd2
        · rcases hw with rfl | ⟨v, rfl, hv⟩
          · cases hw'
          · have e := List.mem_singleton.mp hw'
            subst e
            exact strOk_iff.mp hv.1 d hd2
      · exact strOk_iff.mp (okp w (List.mem_of_mem_drop hw')) d hd2
  · by_cases hn : ps.take i ++ ws ++ ps.drop (i + 1) = []
    · rw [hn, len_tl, tl_join']
      show ([] : List Nat).length ≤ _
      simp
    · have e4 := join_len hy hn
      rw [List.map_append, List.map_append, List.sum_append, List.sum_append] at e4
      have wsum : (ws.map fun p => p.length + 1).sum ≤ m + 1 := by
        rcases hw with rfl | ⟨w, rfl, hv⟩
        · simp
        · have := hv.2
          simp
          omega
      omega
end L2.HW
namespace L2.HW
open PySem PySem.Spec PyProof.Rows L2.HW.G PySem.NumText TL
theorem cat_ev' {f g : EF} {xs ys : List PyData} {env : En} {L M : LH} (h1 : f env L = .ok (.d (.list xs)) M) (h2 : g env M = .ok (.d (.list ys)) M) (hz : xs.length + ys.length ≤ 1000000) : eOp opAdd f g env L = .ok (.d (.list (xs ++ ys))) M := by
  have zs := sizeLine_eq
  have k : xs.length + ys.length ≤ 16777216 := by omega
  rw [u_eOp, h1]
  simp [h2, k, zs]
theorem bent5_ex {L : LH} {n : Nat} {p : Int} {t : Str} {B : Nat} (hn : n < L.length) (ht : okW t B) (hB : B ≤ 50000) : ∃ (t' : Str) (p' : Int), F_l_bent_v5 [.loc n, .d (.str t)] (L.set n (P1 p)) = .ok (.d (.str t')) (L.set n (P1 p')) ∧ okW t' (B + 31) := by
  have zs := sizeLine_eq
  have hl := ht.2
  have sg := sgnS_ok
  obtain ⟨a, p1, a0, a1, e1⟩ := take_ex (L := L) (n := n) (p := p) (s := ((t.length : Int) + 1)) hn (by omega) (log_small (by omega) (by omega))
  obtain ⟨d, p2, d0, d1, e2⟩ := take_ex (L := L) (n := n) (p := p1) (s := 21) hn (by omega)
  obtain ⟨w, p3, w0, w1, e3⟩ := take_ex (L := L) (n := n) (p := p2) (s := 6) hn (by omega)
  obtain ⟨ka, rfl⟩ := Int.eq_ofNat_of_zero_le a0
  obtain ⟨kd, rfl⟩ := Int.eq_ofNat_of_zero_le d0
  have hd : kd < (tl sgnS).length := by rw [← len_tl, sg.1]; omega
  obtain ⟨c, hc⟩ : ∃ c, (tl sgnS)[kd]? = some c := ⟨_, List.getElem?_eq_getElem hd⟩
  have okc : okW ⟨#[c]⟩ 1 := ⟨strOk_one sg.2 (List.mem_of_getElem? hc), Nat.le_refl _⟩
  have hz : t.length ≤ 1000000 := by omega
  have tz : t.length ≤ sizeLine := by omega
  have sz : sgnS.length ≤ sizeLine := by rw [sg.1]; omega
  have k31 : (2 : Int) ≤ 31 ∧ (31 : Int) ≤ 1000 ∧ 0 < ("1" : Str).length ∧ ("1" : Str).length ≤ 1000 := by decide +kernel
  have k30 : (2 : Int) ≤ 30 ∧ (30 : Int) ≤ 1000 ∧ 0 < ("1" : Str).length ∧ ("1" : Str).length ≤ 1000 := by decide +kernel
  have k1x : 0 < ("1" : Str).length ∧ ("1" : Str).length ≤ 1000 := ⟨k31.2.2.1, k31.2.2.2⟩
  obtain ⟨W, hW⟩ : ∃ W : List PyData, W = wrdS.map PyData.str := ⟨_, rfl⟩
  obtain ⟨E, hE⟩ : ∃ E : Option Va → Option Va → Option Va → Option Va → Option Va → Option Va → Option Va → Option Va → En, E = fun x2 x3 x4 x5 x6 x7 x8 x9 => [some (.loc n), some (.d (.str t)), x2, x3, x4, x5, x6, x7, x8, x9] := ⟨_, rfl⟩
  have s2 : sSet 2 (eC (.str "01239 \nwebroadshpi-_A")) (E none none none none none none none none) (L.set n (P1 p)) = .nx (E (some (.d (.str sgnS))) none none none none none none none) (L.set n (P1 p)) := by rw [hE]; rfl
  have s3 : sSet 3 (eDat (fLst (aCons (eC (.str "web")) (aCons (eC (.str "road")) (aCons (eC (.str "shape")) (aCons (eC (.str "pair")) (aCons (eC (.str "0")) (aCons (eC (.str "1")) (aCons (eC (.str "2")) (aCons (eC (.str "00")) (aCons (eC (.str "-1")) (aCons (eC (.str "")) (aCons (eOp opMulS (eC (.str "1")) (eC (.int 31))) (aCons (eC (.str "road 0 1 1 1")) aNil)))))))))))))) (E (some (.d (.str sgnS))) none none none none none none none) (L.set n (P1 p)) = .nx (E (some (.d (.str sgnS))) (some (.d (.list (W.take 12)))) none none none none none none) (L.set n (P1 p)) := by
    rw [hE, hW]
    have om : ∀ env M, eOp opMulS (eC (.str "1")) (eC (.int 31)) env M = .ok (.d (.str (strRep 31 "1"))) M := fun env M => by
      rw [u_eOp, u_eC]
      simp only [Res.bind_ok, u_eC, u_opMulS]
      rw [if_pos k31]
      rfl
    simp [zs, Ob.va, wrdS, om, k1x]
  have s3b : sSet 3 (eOp opAdd (eVar 3) (eDat (fLst (aCons (eC (.str "pair 0 1")) (aCons (eOp opMulS (eC (.str "1")) (eC (.int 30))) aNil))))) (E (some (.d (.str sgnS))) (some (.d (.list (W.take 12)))) none none none none none none) (L.set n (P1 p)) = .nx (E (some (.d (.str sgnS))) (some (.d (.list W))) none none none none none none) (L.set n (P1 p)) := by
    rw [hE, hW]
    have om : ∀ env M, eOp opMulS (eC (.str "1")) (eC (.int 30)) env M = .ok (.d (.str (strRep 30 "1"))) M := fun env M => by
      rw [u_eOp, u_eC]
      simp only [Res.bind_ok, u_eC, u_opMulS]
      rw [if_pos k30]
      rfl
    simp [zs, Ob.va, wrdS, om, k1x]
  have s4 : sSet 4 (eCall F_l_take (aCons (eVar 0) (aCons (eOp opAdd (eCallB cLen (aCons (eVar 1) aNil)) (eC (.int 1))) aNil))) (E (some (.d (.str sgnS))) (some (.d (.list W))) none none none none none none) (L.set n (P1 p)) = .nx (E (some (.d (.str sgnS))) (some (.d (.list W))) (some (.d (.int (ka : Int)))) none none none none none) (L.set n (P1 p1)) := by
    rw [hE]
    simp [tz, e1]
  have s5 : sSet 5 (eOp opIx (eVar 2) (eCall F_l_take (aCons (eVar 0) (aCons (eCallB cLen (aCons (eVar 2) aNil)) aNil)))) (E (some (.d (.str sgnS))) (some (.d (.list W))) (some (.d (.int (ka : Int)))) none none none none none) (L.set n (P1 p1)) = .nx (E (some (.d (.str sgnS))) (some (.d (.list W))) (some (.d (.int (ka : Int)))) (some (.d (.str ⟨#[c]⟩))) none none none none) (L.set n (P1 p2)) := by
    rw [hE]
    have dg : Va.dget (L.set n (P1 p2)) (.d (.str sgnS)) (.d (.int (kd : Int))) = none := rfl
    have sq : Va.seq (L.set n (P1 p2)) (.d (.str sgnS)) = none := rfl
    have a0 : atI sgnS.cps.toList (kd : Int) = some c := by
      have : kd < sgnS.cps.toList.length := hd
      unfold atI ixN
      rw [if_pos (by omega), if_pos (by omega)]
      simpa using hc
    have e2' : F_l_take [.loc n, .d (.int (sgnS.length : Int))] (L.set n (P1 p1)) = .ok (.d (.int (kd : Int))) (L.set n (P1 p2)) := by rw [sg.1]; exact e2
    have tk : eCall F_l_take (aCons (eVar 0) (aCons (eCallB cLen (aCons (eVar 2) aNil)) aNil)) [some (.loc n), some (.d (.str t)), some (.d (.str sgnS)), some (.d (.list W)), some (.d (.int (ka : Int))), none, none, none, none, none] (L.set n (P1 p1)) = .ok (.d (.int (kd : Int))) (L.set n (P1 p2)) := by
      simp [sz, e2']
    rw [u_sSet, u_eOp, u_eVar]
    simp only [List.getElem?_cons_succ, List.getElem?_cons_zero, Res.bind_ok, tk, u_opIx, dg, sq, if_pos sz, a0, then_ok]
    rfl
  have s6 : sSet 6 (eCall F_l_take (aCons (eVar 0) (aCons (eC (.int 6)) aNil))) (E (some (.d (.str sgnS))) (some (.d (.list W))) (some (.d (.int (ka : Int)))) (some (.d (.str ⟨#[c]⟩))) none none none none) (L.set n (P1 p2)) = .nx (E (some (.d (.str sgnS))) (some (.d (.list W))) (some (.d (.int (ka : Int)))) (some (.d (.str ⟨#[c]⟩))) (some (.d (.int w))) none none none) (L.set n (P1 p3)) := by
    rw [hE]
    simp [e3]
  have goal : ∀ (t' : Str) (p' : Int), b_l_bent_v5 (E none none none none none none none none) (L.set n (P1 p)) = .rt (.d (.str t')) (L.set n (P1 p')) → F_l_bent_v5 [.loc n, .d (.str t)] (L.set n (P1 p)) = .ok (.d (.str t')) (L.set n (P1 p')) := fun t' p' h => by
    rw [hE] at h
    exact fn_out (w := .d (.str t')) (L' := L.set n (P1 p')) rfl h (settle_d _ _ _ _) (outV_set0 _ hn)
  by_cases hw : w < 3
  · -- a sign
    have mid : ∃ (s : Str) (j : Nat), okW s 1 ∧ j ≤ 1 ∧ eOp opIx (eDat (fLst (aCons (eC (.str "")) (aCons (eVar 5) (aCons (eVar 5) aNil))))) (eVar 6) (E (some (.d (.str sgnS))) (some (.d (.list W))) (some (.d (.int (ka : Int)))) (some (.d (.str ⟨#[c]⟩))) (some (.d (.int w))) none none none) (L.set n (P1 p3)) = .ok (.d (.str s)) (L.set n (P1 p3)) ∧ eOp opAdd (eVar 4) (eOp opIx (eDat (fLst (aCons (eC (.int 1)) (aCons (eC (.int 0)) (aCons (eC (.int 1)) aNil))))) (eVar 6)) (E (some (.d (.str sgnS))) (some (.d (.list W))) (some (.d (.int (ka : Int)))) (some (.d (.str ⟨#[c]⟩))) (some (.d (.int w))) none none none) (L.set n (P1 p3)) = .ok (.d (.int ((ka + j : Nat) : Int))) (L.set n (P1 p3)) := by
      have hw3 : w = 0 ∨ w = 1 ∨ w = 2 := by omega
      have emp : okW "" 1 := ⟨by decide +kernel, by decide +kernel⟩
      have dg3 : ∀ (x y z : PyData) (i : Int), Va.dget (L.set n (P1 p3)) (.d (.list [x, y, z])) (.d (.int i)) = none := fun _ _ _ _ => rfl
      rcases hw3 with rfl | rfl | rfl
      · refine ⟨"", 1, emp, Nat.le_refl _, ?_, ?_⟩ <;> · rw [hE]; simp [zs, Ob.va, atI, ixN]
      · refine ⟨⟨#[c]⟩, 0, okc, Nat.zero_le _, ?_, ?_⟩ <;> · rw [hE]; simp [zs, Ob.va, atI, ixN]
      · refine ⟨⟨#[c]⟩, 1, okc, Nat.le_refl _, ?_, ?_⟩ <;> · rw [hE]; simp [zs, Ob.va, atI, ixN]
    obtain ⟨s, j, oks, hj, m1, m2⟩ := mid
    have x1 := ssl_to (i := 1) (j := 0) (z := t) (k := ka) hz (env := E (some (.d (.str sgnS))) (some (.d (.list W))) (some (.d (.int (ka : Int)))) (some (.d (.str ⟨#[c]⟩))) (some (.d (.int w))) none none none) (L := L.set n (P1 p3)) (by rw [hE]; rfl) (g := eVar 4) (by rw [hE]; rfl)
    have x2 := ssl_from (i := 1) (z := t) (k := ka + j) hz (env := E (some (.d (.str sgnS))) (some (.d (.list W))) (some (.d (.int (ka : Int)))) (some (.d (.str ⟨#[c]⟩))) (some (.d (.int w))) none none none) (L := L.set n (P1 p3)) (by rw [hE]; rfl) m2
    have l1 : (cutS t none (some (ka : Int))).length ≤ ka := by rw [len_tl, cutS_to, List.length_take]; omega
    have l2 : (cutS t (some ((ka + j : Nat) : Int)) none).length = t.length - (ka + j) := by rw [len_tl, cutS_from, List.length_drop, ← len_tl]
    have hs := oks.2
    have r1 := add_str_ev x1 m1 (by omega)
    have r2 := add_str_ev r1 x2 (by rw [len_app]; omega)
    refine ⟨_, p3, goal (cutS t none (some (ka : Int)) ++ s ++ cutS t (some ((ka + j : Nat) : Int)) none) p3 ?_, strOk_iff.mpr fun x hx => ?_, ?_⟩
    · refine seq_nx s2 (seq_nx s3 (seq_nx s3b (seq_nx s4 (seq_nx s5 (seq_nx s6 (seq_rt ?_))))))
      have tst : tVal (eOp opLt (eVar 6) (eC (.int 3))) (E (some (.d (.str sgnS))) (some (.d (.list W))) (some (.d (.int (ka : Int)))) (some (.d (.str ⟨#[c]⟩))) (some (.d (.int w))) none none none) (L.set n (P1 p3)) = .ok true (L.set n (P1 p3)) := by
        rw [hE]
        simp [hw]
      rw [u_sIf, tst]
      simp only [then_ok, if_true]
      rw [u_sRet, r2]
      rfl
    · have o1 := strOk_iff.mp ht.1
      rw [tl_append, tl_append, cutS_to, cutS_from] at hx
      rcases List.mem_append.mp hx with hx | hx
      · rcases List.mem_append.mp hx with hx | hx
        · exact o1 x (List.mem_of_mem_take hx)
        · exact strOk_iff.mp oks.1 x hx
      · exact o1 x (List.mem_of_mem_drop hx)
    · rw [len_app, len_app]
      omega
  · have tst : sIf (tVal (eOp opLt (eVar 6) (eC (.int 3)))) (sRet (eOp opAdd (eOp opAdd (eSl (eVar 1) pNone (pSome (eVar 4))) (eOp opIx (eDat (fLst (aCons (eC (.str "")) (aCons (eVar 5) (aCons (eVar 5) aNil))))) (eVar 6))) (eSl (eVar 1) (pSome (eOp opAdd (eVar 4) (eOp opIx (eDat (fLst (aCons (eC (.int 1)) (aCons (eC (.int 0)) (aCons (eC (.int 1)) aNil))))) (eVar 6)))) pNone))) sNil (E (some (.d (.str sgnS))) (some (.d (.list W))) (some (.d (.int (ka : Int)))) (some (.d (.str ⟨#[c]⟩))) (some (.d (.int w))) none none none) (L.set n (P1 p3)) = .nx (E (some (.d (.str sgnS))) (some (.d (.list W))) (some (.d (.int (ka : Int)))) (some (.d (.str ⟨#[c]⟩))) (some (.d (.int w))) none none none) (L.set n (P1 p3)) := by
      have : tVal (eOp opLt (eVar 6) (eC (.int 3))) (E (some (.d (.str sgnS))) (some (.d (.list W))) (some (.d (.int (ka : Int)))) (some (.d (.str ⟨#[c]⟩))) (some (.d (.int w))) none none none) (L.set n (P1 p3)) = .ok false (L.set n (P1 p3)) := by
        rw [hE]
        simp
        omega
      rw [u_sIf, this]
      simp
    -- the mark
    have mk : ∃ (y : Str) (cy : Nat), tl y = [cy] ∧ cy < 0x110000 ∧ y.cps.all (· < 256) = true ∧ (y.length == 0) = false ∧ eOp opIx (eDat (fLst (aCons (eC (.str " ")) (aCons (eC (.str "\n")) (aCons (eC (.str "\n")) aNil))))) (eOp opSub (eVar 6) (eC (.int 3))) (E (some (.d (.str sgnS))) (some (.d (.list W))) (some (.d (.int (ka : Int)))) (some (.d (.str ⟨#[c]⟩))) (some (.d (.int w))) none none none) (L.set n (P1 p3)) = .ok (.d (.str y)) (L.set n (P1 p3)) := by
      have hw3 : w = 3 ∨ w = 4 ∨ w = 5 := by omega
      rcases hw3 with rfl | rfl | rfl
      · exact ⟨spS, 32, spS_tl, by decide, by decide +kernel, sp_len, by rw [hE]; simp [zs, Ob.va, atI, ixN]⟩
      · exact ⟨nlS, 10, nlS_tl, by decide, by decide +kernel, nl_len, by rw [hE]; simp [zs, Ob.va, atI, ixN]⟩
      · exact ⟨nlS, 10, nlS_tl, by decide, by decide +kernel, nl_len, by rw [hE]; simp [zs, Ob.va, atI, ixN]⟩
    obtain ⟨y, cy, y1, y2, y3, y4, my⟩ := mk
    obtain ⟨f1, f2, f3⟩ := split_fact y1 y3 t
    have fl : 0 < (Txt.split t y).length := List.length_pos_iff.mpr f1
    obtain ⟨u, p4, u0, u1, e4⟩ := take_ex (L := L) (n := n) (p := p3) (s := ((Txt.split t y).length : Int)) hn (by omega) (log_small (by omega) (by omega))
    obtain ⟨ku, rfl⟩ := Int.eq_ofNat_of_zero_le u0
    have hku : ku < (Txt.split t y).length := by omega
    obtain ⟨PS, hPS⟩ : ∃ PS : List PyData, PS = (Txt.split t y).map PyData.str := ⟨_, rfl⟩
    have lPS : PS.length = (Txt.split t y).length := by rw [hPS, List.length_map]
    have s7 : sSet 7 (eOp opIx (eDat (fLst (aCons (eC (.str " ")) (aCons (eC (.str "\n")) (aCons (eC (.str "\n")) aNil))))) (eOp opSub (eVar 6) (eC (.int 3)))) (E (some (.d (.str sgnS))) (some (.d (.list W))) (some (.d (.int (ka : Int)))) (some (.d (.str ⟨#[c]⟩))) (some (.d (.int w))) none none none) (L.set n (P1 p3)) = .nx (E (some (.d (.str sgnS))) (some (.d (.list W))) (some (.d (.int (ka : Int)))) (some (.d (.str ⟨#[c]⟩))) (some (.d (.int w))) (some (.d (.str y))) none none) (L.set n (P1 p3)) := by
      rw [u_sSet, my, hE]
      rfl
    have s8 : sSet 8 (eDat (fSplit (eVar 1) (eVar 7))) (E (some (.d (.str sgnS))) (some (.d (.list W))) (some (.d (.int (ka : Int)))) (some (.d (.str ⟨#[c]⟩))) (some (.d (.int w))) (some (.d (.str y))) none none) (L.set n (P1 p3)) = .nx (E (some (.d (.str sgnS))) (some (.d (.list W))) (some (.d (.int (ka : Int)))) (some (.d (.str ⟨#[c]⟩))) (some (.d (.int w))) (some (.d (.str y))) (some (.d (.list PS))) none) (L.set n (P1 p3)) := by
      have k : (y.length == 0) = false ∧ t.length + 2 ≤ sizeLine := ⟨y4, by omega⟩
      rw [hE, u_sSet, u_eDat, u_fSplit, u_eVar]
      simp only [List.getElem?_cons_succ, List.getElem?_cons_zero, Res.bind_ok, u_eVar, if_pos k, va_lst, then_ok]
      rw [hPS]
      rfl
    have s9 : sSet 9 (eCall F_l_take (aCons (eVar 0) (aCons (eCallB cLen (aCons (eVar 8) aNil)) aNil))) (E (some (.d (.str sgnS))) (some (.d (.list W))) (some (.d (.int (ka : Int)))) (some (.d (.str ⟨#[c]⟩))) (some (.d (.int w))) (some (.d (.str y))) (some (.d (.list PS))) none) (L.set n (P1 p3)) = .nx (E (some (.d (.str sgnS))) (some (.d (.list W))) (some (.d (.int (ka : Int)))) (some (.d (.str ⟨#[c]⟩))) (some (.d (.int w))) (some (.d (.str y))) (some (.d (.list PS))) (some (.d (.int (ku : Int))))) (L.set n (P1 p4)) := by
      rw [← lPS] at e4
      rw [hE]
      simp [e4]
    obtain ⟨G, hG⟩ : ∃ G : En, G = E (some (.d (.str sgnS))) (some (.d (.list W))) (some (.d (.int (ka : Int)))) (some (.d (.str ⟨#[c]⟩))) (some (.d (.int w))) (some (.d (.str y))) (some (.d (.list PS))) (some (.d (.int (ku : Int)))) := ⟨_, rfl⟩
    have g7 : ∀ M, eVar 7 G M = .ok (.d (.str y)) M := fun M => by rw [hG, hE]; rfl
    have g8 : ∀ M, eVar 8 G M = .ok (.d (.list PS)) M := fun M => by rw [hG, hE]; rfl
    have g9 : ∀ M, eVar 9 G M = .ok (.d (.int (ku : Int))) M := fun M => by rw [hG, hE]; rfl
    have g91 : ∀ M, eOp opAdd (eVar 9) (eC (.int 1)) G M = .ok (.d (.int ((ku + 1 : Nat) : Int))) M := fun M => by rw [u_eOp, g9]; simp
    have t1 := fun M => sl_to (f := eVar 8) (xs := PS) (env := G) (L := M) ku (g := eVar 9) (g8 M) (g9 M)
    have t2 := fun M => lsl_from (f := eVar 8) (g := eOp opAdd (eVar 9) (eC (.int 1))) (xs := PS) (env := G) (L := M) (i := ku + 1) (g8 M) (g91 M)
    have base := fun (r : Str × Int) h => goal r.1 r.2 (seq_nx s2 (seq_nx s3 (seq_nx s3b (seq_nx s4 (seq_nx s5 (seq_nx s6 (seq_nx tst (seq_nx s7 (seq_nx s8 (seq_nx s9 h))))))))))
    have okj : ∀ ws : List Str, (ws = [] ∨ ∃ v, ws = [v] ∧ okW v 31) → joinOk y ((Txt.split t y).take ku ++ ws ++ (Txt.split t y).drop (ku + 1)) = true := fun ws hw' => by
      have lw : ws.length ≤ 1 := by rcases hw' with rfl | ⟨v, rfl, _⟩ <;> simp
      unfold joinOk
      rw [decide_eq_true_eq]
      have ly : y.length = 1 := by rw [len_tl, y1]; rfl
      have ej : Txt.join y (Txt.split t y) = t := by rw [TL.join_eq]; exact PySem.StrLaws.join_split t y
      have el := join_len y1 f1
      rw [ej] at el
      have sub : ∀ ps : List Str, ((ps.take ku).map (·.length)).sum + ((ps.drop (ku + 1)).map (·.length)).sum ≤ (ps.map fun p => p.length + 1).sum := fun ps => by
        have e : (ps.map fun p => p.length + 1).sum = ((ps.take ku).map fun p => p.length + 1).sum + ((ps.drop ku).map fun p => p.length + 1).sum := by
          rw [← List.sum_append, ← List.map_append, List.take_append_drop]
        have m1 : ∀ l : List Str, (l.map (·.length)).sum ≤ (l.map fun p => p.length + 1).sum := by
          intro l
          induction l with
          | nil => simp
          | cons a l ih => simp only [List.map_cons, List.sum_cons]; omega
        have m2 : ∀ l : List Str, ((l.drop 1).map fun p => p.length + 1).sum ≤ (l.map fun p => p.length + 1).sum := by
          intro l
          cases l with
          | nil => simp
          | cons a l => simp
        have := m1 (ps.take ku)
        have := m1 (ps.drop (ku + 1))
        have h3 := m2 (ps.drop ku)
        rw [List.drop_drop] at h3
        omega
      have sb := sub (Txt.split t y)
      have ws2 : (ws.map (·.length)).sum ≤ 31 := by
        rcases hw' with rfl | ⟨v, rfl, hv⟩
        · simp
        · have := hv.2
          simpa using this
      rw [List.map_append, List.map_append, List.sum_append, List.sum_append, List.length_append, List.length_append, List.length_take, List.length_drop, ly]
      omega
    by_cases h5 : w = 5
    · have sw := join_swap (y := y) y1 y2 ht hku y3 (ws := []) (m := 31) (.inl rfl)
      rw [List.append_nil] at sw
      have oj := okj [] (.inl rfl)
      rw [List.append_nil] at oj
      refine ⟨_, p4, base (Txt.join y ((Txt.split t y).take ku ++ (Txt.split t y).drop (ku + 1)), p4) ?_, sw⟩
      rw [← hG]
      refine seq_rt ?_
      have tt : tVal (eOp opEq (eVar 6) (eC (.int 5))) G (L.set n (P1 p4)) = .ok true (L.set n (P1 p4)) := by
        rw [hG, hE]
        simp [h5, eqv_int]
      have ca := cat_ev (t1 (L.set n (P1 p4))) (t2 (L.set n (P1 p4))) (by rw [List.length_take, List.length_drop]; omega)
      have ee : PS.take ku ++ PS.drop (ku + 1) = ((Txt.split t y).take ku ++ (Txt.split t y).drop (ku + 1)).map PyData.str := by rw [hPS, List.map_append, List.map_take, List.map_drop]
      rw [ee] at ca
      rw [u_sIf, tt]
      simp only [then_ok, if_true]
      rw [u_sRet, u_eJoin, g7]
      simp only [Res.bind_ok, ca, Va.data, strsOf_map, if_pos oj, then_ok]
    · obtain ⟨z, hz', p5, e5⟩ := pick_ex (R := W) (L := L) (n := n) (p := p4) hn (by rw [hW]; decide) (by rw [hW]; decide)
      rw [hW] at hz'
      obtain ⟨v, hv, rfl⟩ := List.mem_map.mp hz'
      have okv := wrdS_ok v hv
      have sw := join_swap (y := y) y1 y2 ht hku y3 (ws := [v]) (m := 31) (.inr ⟨v, rfl, okv⟩)
      have oj := okj [v] (.inr ⟨v, rfl, okv⟩)
      refine ⟨_, p5, base (Txt.join y ((Txt.split t y).take ku ++ [v] ++ (Txt.split t y).drop (ku + 1)), p5) ?_, sw⟩
      rw [← hG]
      have tt : tVal (eOp opEq (eVar 6) (eC (.int 5))) G (L.set n (P1 p4)) = .ok false (L.set n (P1 p4)) := by
        rw [hG, hE]
        simp [h5, eqv_int]
      refine seq_nx (env1 := G) (L1 := L.set n (P1 p4)) (by rw [u_sIf, tt]; simp) ?_
      have pk : eDat (fLst (aCons (eCall F_l_pick (aCons (eVar 0) (aCons (eVar 3) aNil))) aNil)) G (L.set n (P1 p4)) = .ok (.d (.list [.str v])) (L.set n (P1 p5)) := by
        have k1 : 0 + 1 ≤ sizeLine := by omega
        have cl : eCall F_l_pick (aCons (eVar 0) (aCons (eVar 3) aNil)) G (L.set n (P1 p4)) = .ok (.d (.str v)) (L.set n (P1 p5)) := by
          rw [hG, hE]
          simp [e5]
        rw [u_eDat, u_fLst, u_aCons, cl]
        simp only [Res.bind_ok, u_aNil, List.length_cons, List.length_nil, if_pos k1]
        rfl
      have ca1 : eOp opAdd (eSl (eVar 8) pNone (pSome (eVar 9))) (eDat (fLst (aCons (eCall F_l_pick (aCons (eVar 0) (aCons (eVar 3) aNil))) aNil))) G (L.set n (P1 p4)) = .ok (.d (.list (PS.take ku ++ [.str v]))) (L.set n (P1 p5)) := by
        have k : (PS.take ku).length + 1 ≤ 16777216 := by rw [List.length_take]; omega
        rw [u_eOp, t1]
        simp only [Res.bind_ok, pk]
        generalize PS.take ku = A at *
        simp [k, zs]
      have ca := cat_ev' ca1 (t2 (L.set n (P1 p5))) (by simp only [List.length_append, List.length_take, List.length_drop, List.length_cons, List.length_nil]; omega)
      have ee : PS.take ku ++ [.str v] ++ PS.drop (ku + 1) = ((Txt.split t y).take ku ++ [v] ++ (Txt.split t y).drop (ku + 1)).map PyData.str := by rw [hPS, List.map_append, List.map_append, List.map_take, List.map_drop]; rfl
      rw [ee] at ca
      rw [u_sRet, u_eJoin, g7]
      simp only [Res.bind_ok, ca, Va.data, strsOf_map, if_pos oj, then_ok]
end L2.HW
namespace L2.HW
open PySem PySem.Spec PyProof.Rows L2.HW.G
def SmD (x : PyData) : Prop := cmpOk x x = true ∧ PyData.eqv x x = true
theorem ne_same {f g : EF} {x : PyData} {env : En} {L : LH} (hf : f env L = .ok (.d x) L) (hg : g env L = .ok (.d x) L) (h : SmD x) : tVal (eOp opNe f g) env L = .ok false L := by
  rw [u_tVal, u_eOp, hf]
  simp only [Res.bind_ok, hg, u_opNe, data_d, h.1, if_true, h.2, Bool.not_true]
theorem k1 {F : Fn} {i : Nat} {w : Va} {x : PyData} {env : En} {L : LH} (hi : env[i]? = some (some w)) (h : F [w] L = .ok (.d x) L) : eCallK F 1 [0] (aCons (eVar i) aNil) env L = .ok (.d x) L ∧ eCall F (aCons (eVar i) aNil) env L = .ok (.d x) L := by
  have ev : eVar i env L = .ok w L := by simp [eVar, hi]
  constructor
  · rw [u_eCallK, u_aCons, ev]
    simp [pickL, h]
  · rw [u_eCall, u_aCons, ev]
    simp [h]
theorem k2 {F : Fn} {f g : EF} {w u : Va} {x : PyData} {env : En} {L : LH} (hf : f env L = .ok w L) (hg : g env L = .ok u L) (h : F [w, u] L = .ok (.d x) L) : eCallK F 2 [1, 0] (aCons g (aCons f aNil)) env L = .ok (.d x) L ∧ eCall F (aCons f (aCons g aNil)) env L = .ok (.d x) L := by
  constructor
  · rw [u_eCallK, u_aCons, hg]
    simp [pickL, hf, h]
  · rw [u_eCall, u_aCons, hf]
    simp [hg, h]
end L2.HW
namespace L2.HW
open PySem PySem.Spec PyProof.Rows L2.HW.G PySem.NumText TL
abbrev sml (r : List Int) : Prop := ∀ n ∈ r, 0 ≤ n ∧ n < 10
theorem sml_rng {r : List Int} (h : sml r) : rng r := fun n hn => by
  obtain ⟨h0, h1⟩ := h n hn
  refine ⟨h0, ?_⟩
  have : (10 : Int) ≤ 10 ^ 30 := by decide +kernel
  omega
theorem numS_one {n : Int} (h : 0 ≤ n ∧ n < 10) : (numS n).length = 1 := by
  obtain ⟨k, rfl⟩ := Int.eq_ofNat_of_zero_le h.1
  rw [len_tl, numS_tl, digs_lt (by omega)]
  rfl
theorem words_sml {word : Str} {r : List Int} (hr : sml r) : (wordsT word r).length = word.length + 2 * r.length := by
  have h := join_len spS_tl (ps := word :: r.map numS) (by simp)
  have e : ∀ l : List Int, sml l → (((l.map numS).map fun p => p.length + 1).sum) = 2 * l.length := by
    intro l
    induction l with
    | nil => intro _; rfl
    | cons a l ih =>
      intro hl
      have := ih fun n hn => hl n (List.mem_cons_of_mem _ hn)
      have q := numS_one (hl a List.mem_cons_self)
      simp only [List.map_cons, List.sum_cons, List.length_cons]
      omega
  have := e r hr
  rw [List.map_cons, List.sum_cons, this] at h
  unfold wordsT
  omega
theorem text_sml {head word : Str} {f : List Int} {rs : List (List Int)} {k N : Nat} (hf : sml f) (hr : ∀ r ∈ rs, sml r ∧ r.length ≤ k) (h1 : head.length + 2 * f.length ≤ 12) (h2 : word.length + 2 * k ≤ 12) (hn : rs.length ≤ N) : (textT head word f rs).length ≤ (N + 1) * 13 := by
  have := text_len (head := head) (word := word) (f := f) (rs := rs) (B := 12) (by rw [words_sml hf]; omega) (fun r h => by
    obtain ⟨q1, q2⟩ := hr r h
    rw [words_sml q1]
    omega)
  have m : (rs.length + 1) * 13 ≤ (N + 1) * 13 := Nat.mul_le_mul_right _ (by omega)
  omega
theorem smD_str (s : Str) : SmD (.str s) := ⟨str_ok _ _, str_same _⟩
end L2.HW
namespace L2.HW
open PySem PySem.Spec PyProof.Rows L2.HW.G PySem.NumText TL
def lstS (xs : List Str) : Option Ob := some (.lst ((xs.map PyData.str).map Va.d))
theorem apps_loop {i q n : Nat} {f : EF} {env0 : En} {L : LH} {h : Str → Str} (hq : i ≠ q) (hi : i < env0.length) (he : env0[q]? = some (some (.loc n))) (hn : n < L.length) : ∀ (ws acc : List Str) (x : Option Va), (∀ w ∈ ws, ∀ M, f (env0.set i (some (.d (.str w)))) M = .ok (.d (.str (h w))) M) → acc.length + ws.length ≤ 1000000 →
    ∃ y, forL (tN i) (sExpr (eMeth isLs mAppend (eVar q) (aCons f aNil))) ((ws.map PyData.str).map Va.d) (env0.set i x) (L.set n (lstS acc)) = .nx (env0.set i y) (L.set n (lstS (acc ++ ws.map h)))
  | [], acc, x, _, _ => ⟨x, by rw [show acc ++ List.map h [] = acc by simp]; rfl⟩
  | w :: ws, acc, x, hf, hl => by
    have zs := sizeLine_eq
    obtain ⟨y, e⟩ := apps_loop (f := f) (L := L) (h := h) hq hi he hn ws (acc ++ [h w]) (some (.d (.str w))) (fun z hz => hf z (List.mem_cons_of_mem _ hz)) (by simp only [List.length_append, List.length_cons, List.length_nil] at *; omega)
    refine ⟨y, ?_⟩
    have g : (L.set n (lstS acc))[n]? = some (some (.lst ((acc.map PyData.str).map Va.d))) := by simp [hn, lstS]
    have k1 : ((acc.map PyData.str).map Va.d).length < sizeLine := by rw [List.length_map, List.length_map]; simp only [List.length_cons] at hl; omega
    have il : isLs (L.set n (lstS acc)) (.loc n) = true := by rw [u_isLs]; simp only [g]
    have ev : (env0.set i (some (.d (.str w))))[q]? = some (some (.loc n)) := by rw [List.getElem?_set_ne hq, he]
    have bd : sExpr (eMeth isLs mAppend (eVar q) (aCons f aNil)) (env0.set i (some (.d (.str w)))) (L.set n (lstS acc)) = .nx (env0.set i (some (.d (.str w)))) (L.set n (lstS (acc ++ [h w]))) := by
      rw [u_sExpr, u_eMeth, u_eVar, ev]
      simp only [Res.bind_ok, il, if_true]
      rw [u_aCons, hf w List.mem_cons_self]
      simp only [Res.bind_ok, u_aNil, u_mAppend, g, if_pos k1, then_ok]
      rw [List.set_set]
      simp [lstS]
    have tn : tN i (.d (.str w)) (env0.set i x) (L.set n (lstS acc)) = .ok (env0.set i (some (.d (.str w)))) (L.set n (lstS acc)) := by
      rw [u_tN, List.set_set]
    rw [List.map_cons, List.map_cons]
    conv => lhs; unfold forL
    rw [tn]
    simp only [bd]
    rw [e, List.append_assoc]
    rfl
theorem newS {q : Nat} {g : En → LH → Res Ob} {env : En} {L : LH} {xs : List Str} (h : g env L = .ok (.lst ((xs.map PyData.str).map Va.d)) L) (hq : q < env.length) : sSet q (eNew g) env L = .nx (env.set q (some (.loc L.length))) (L ++ [lstS xs]) := by
  rw [u_sSet, u_eNew, h]
  simp only [Res.bind_ok, then_ok, if_pos hq]
  rfl
theorem odds_run {F : Fn} {q v n : Nat} {env : En} {L : LH} {xs : List Str} (hn : L[n]? = some (lstS xs)) (hz : xs.length ≤ 1000) (hv : v < env.length) (hq : env[q]? = some (some (.loc n))) (hF : ∀ x ∈ xs, ∀ M, F [.d (.str x)] M = .ok (.d (.bool true)) M) :
    eOp opEq (eDat (fComp (srcV (eVar q)) (tN v) (tNotF (tVal (eCall F (aCons (eVar v) aNil)))) (eVar v) [v])) (eDat (fLst aNil)) env L = .ok (.d (.bool true)) L := by
  have zs := sizeLine_eq
  have hl : n < L.length := by
    rcases Nat.lt_or_ge n L.length with h | h
    · exact h
    · rw [List.getElem?_eq_none h] at hn; cases hn
  have src : srcV (eVar q) env L = .ok ((xs.map PyData.str).map Va.d, some n) L := by
    have so : srcOf (.loc n) L = some ((xs.map PyData.str).map Va.d, some n) := by
      have hn' : L[n]? = some (some (.lst ((xs.map PyData.str).map Va.d))) := hn
      unfold srcOf
      simp only [hn']
    rw [u_srcV, u_eVar, hq]
    simp only [Res.bind_ok, so]
  have c : fComp (srcV (eVar q)) (tN v) (tNotF (tVal (eCall F (aCons (eVar v) aNil)))) (eVar v) [v] env L = .ok (.lst []) L := by
    have k := compL_data (g := tN v) (t := tNotF (tVal (eCall F (aCons (eVar v) aNil)))) (f := eVar v) (env := wipeE env [v]) (L := lockL (some n) L) (fun _ => false) _root_.id (xs.map PyData.str) (fun x hx => by
      obtain ⟨s, hs, rfl⟩ := List.mem_map.mp hx
      have lw := wipeE_length env [v]
      refine ⟨(wipeE env [v]).set v (some (.d (.str s))), by rw [u_tN], ?_, fun h => by cases h⟩
      have ge : ((wipeE env [v]).set v (some (.d (.str s))))[v]? = some (some (.d (.str s))) := by
        rw [List.getElem?_set_self (by rw [lw]; exact hv)]
      have f := hF s hs (lockL (some n) L)
      have ev : eVar v ((wipeE env [v]).set v (some (.d (.str s)))) (lockL (some n) L) = .ok (.d (.str s)) (lockL (some n) L) := by rw [u_eVar, ge]
      have cl : eCall F (aCons (eVar v) aNil) ((wipeE env [v]).set v (some (.d (.str s)))) (lockL (some n) L) = .ok (.d (.bool true)) (lockL (some n) L) := by
        rw [u_eCall, u_aCons, ev]
        simp [f]
      rw [u_tNotF, u_tVal, cl]
      simp)
    have fl : ∀ ys : List PyData, ys.filter (fun _ => false) = [] := fun ys => by simp
    rw [fl] at k
    have k2 : ((xs.map PyData.str).map Va.d).length ≤ sizeLine := by rw [List.length_map, List.length_map]; omega
    have op : openL (some n) L (lockL (some n) L) = L := by
      unfold openL lockL
      simp only [hn, List.set_set]
      exact List.ext_getElem? fun m => by
        by_cases h : n = m
        · subst h
          rw [List.getElem?_set_self hl, hn]
        · rw [List.getElem?_set_ne h]
    unfold fComp
    rw [src]
    simp only [Res.bind_ok, if_pos k2, k]
    rw [op]
    rfl
  have c0 : cmpOk (.list []) (.list []) = true := by decide
  rw [u_eOp, u_eDat, c]
  simp [c0, PyData.eqv, PyData.eqvAll]
end L2.HW
namespace L2.HW
open PySem PySem.Spec PyProof.Rows L2.HW.G PySem.NumText TL
theorem e30 : (1000000 : Int) ≤ 10 ^ 30 := by decide +kernel
def wo7 : List Str := [strRep 30 "9", strRep 31 "9", "01", "-1", "x"]
theorem mul_ev {env : En} {M : LH} {k : Nat} {m : Str} (h : (2 : Int) ≤ (k : Int) ∧ (k : Int) ≤ 1000 ∧ 0 < m.length ∧ m.length ≤ 1000) : eOp opMulS (eC (.str m)) (eC (.int (k : Int))) env M = .ok (.d (.str (strRep k m))) M := by
  rw [u_eOp, u_eC]
  simp only [Res.bind_ok, u_eC, u_opMulS]
  rw [if_pos h]
  rfl
theorem cat3_ev {f : EF} {env : En} {M : LH} {a b c : Str} (h : f env M = .ok (.d (.str b)) M) (h1 : a.length + b.length + c.length ≤ 1000000) : eOp opAdd (eOp opAdd (eC (.str a)) f) (eC (.str c)) env M = .ok (.d (.str (a ++ b ++ c))) M := by
  have q := add_str_ev (f := eC (.str a)) (g := f) (env := env) (L := M) (M := M) (by rw [u_eC]) h (by omega)
  exact add_str_ev q (by rw [u_eC]) (by rw [len_app]; omega)
theorem two_ev {f g : EF} {env : En} {M : LH} {a b : PyData} (h1 : f env M = .ok (.d a) M) (h2 : g env M = .ok (.d b) M) : fLst (aCons f (aCons g aNil)) env M = .ok (.lst [.d a, .d b]) M := by
  have zs := sizeLine_eq
  have k : 0 + 1 + 1 ≤ sizeLine := by omega
  rw [u_fLst, u_aCons, h1]
  simp only [Res.bind_ok, u_aCons, h2, u_aNil, List.length_cons, List.length_nil, if_pos k]
theorem catS_ev {f g : EF} {env : En} {M M' : LH} {n : Nat} {xs ys : List Str} (h1 : f env M = .ok (.loc n) M) (hn : M[n]? = some (lstS xs)) (h2 : g env M = .ok (.d (.list (ys.map PyData.str))) M) (hz : xs.length + ys.length ≤ 1000) : fCat f g env M = .ok (.lst (((xs ++ ys).map PyData.str).map Va.d)) M := by
  have zs := sizeLine_eq
  have hn' : M[n]? = some (some (.lst ((xs.map PyData.str).map Va.d))) := hn
  have i1 : Va.items M (.loc n) = some ((xs.map PyData.str).map Va.d) := by
    unfold Va.items
    simp only [hn']
  have i2 : Va.items M (.d (.list (ys.map PyData.str))) = some ((ys.map PyData.str).map Va.d) := rfl
  have k : ((xs.map PyData.str).map Va.d).length + ((ys.map PyData.str).map Va.d).length ≤ sizeLine := by simp only [List.length_map]; omega
  rw [u_fCat, h1]
  simp only [Res.bind_ok, h2, i1, i2, if_pos k]
  rw [List.map_append, List.map_append]
end L2.HW
namespace L2.HW
open PySem PySem.Spec PyProof.Rows L2.HW.G PySem.NumText TL
def prL (p : Pr) : List Int := [p.1, p.2]
theorem sh_par (m b e : Int) (ps : List Pr) : encS m b e ps = parD ([m, b, e], ps.map prL) := by
  rw [par_eq, List.map_map]
  rfl
theorem shp_tx {top cnt m b e : Int} {ps : List Pr} (g : GoodS top cnt m b e ps) (hm : m ≤ 9) (hl : ps.length ≤ 12) : ∃ T : Str, okW T 200 ∧ (∀ L, F_l_text_v2 [.d (encS m b e ps)] L = .ok (.d (.str T)) L) ∧ (∀ L, F_shape_text [.d (encS m b e ps)] L = .ok (.d (.str T)) L) ∧ (∀ L, F_read_shape [.d (.str T)] L = .ok (.d (encS m b e ps)) L) ∧ okShow (encS m b e ps) := by
  have g1 := g.m2; have g2 := g.b0; have g3 := g.b1; have g4 := g.e0; have g5 := g.e1
  have s1 : sml [m, b, e] := fun n hn => by
    simp only [List.mem_cons, List.not_mem_nil, or_false] at hn
    rcases hn with rfl | rfl | rfl <;> omega
  have s2 : ∀ r ∈ ps.map prL, sml r ∧ r.length = 2 := fun r hr => by
    obtain ⟨x, hx, rfl⟩ := List.mem_map.mp hr
    refine ⟨fun n hn => ?_, rfl⟩
    have q := g.rd x hx
    simp only [prL, List.mem_cons, List.not_mem_nil, or_false] at hn
    rcases hn with rfl | rfl <;> omega
  have f1 := sml_rng s1
  have f2 : ∀ r ∈ ps.map prL, rng r ∧ r.length = 2 := fun r hr => ⟨sml_rng (s2 r hr).1, (s2 r hr).2⟩
  have ln : (ps.map prL).length ≤ 12 := by rw [List.length_map]; exact hl
  have tl := text_sml (head := "shape") (word := "pair") (N := 12) (k := 2) s1 (fun r hr => ⟨(s2 r hr).1, Nat.le_of_eq (s2 r hr).2⟩) (show ("shape" : Str).length + 2 * 3 ≤ 12 by decide +kernel) (by decide +kernel) ln
  have ta := text_ascii (head := "shape") (word := "pair") (f := [m, b, e]) (rs := ps.map prL) (by decide +kernel) (by decide +kernel) f1 (fun r hr => (f2 r hr).1)
  have pt := parse_text (head := "shape") (word := "pair") (by decide +kernel) (by decide +kernel) (by decide +kernel) (by decide +kernel) f1 rfl f2
  have lt := l_text_v2_run f1 (fun r hr => ⟨(f2 r hr).1, by have := (f2 r hr).2; omega⟩) (by omega)
  have wt := shape_text_run f1 (fun r hr => ⟨(f2 r hr).1, by have := (f2 r hr).2; omega⟩) (by omega) (fun L => by rw [← sh_par]; exact look_shape g (by omega) (by omega) L)
  have sh := show_par (a := m) (b := b) (c := e) (rs := ps.map prL) f1 (fun r hr => ⟨by have := (f2 r hr).2; omega, (f2 r hr).1⟩) (by omega)
  rw [← sh_par] at lt wt sh
  refine ⟨_, ⟨strOk_ascii ta, by omega⟩, lt, wt, fun L => ?_, sh⟩
  have rr := read_shape_run (textT "shape" "pair" [m, b, e] (ps.map prL)) (by omega) L
  rw [pt] at rr
  have rr' : F_read_shape [.d (.str (textT "shape" "pair" [m, b, e] (ps.map prL)))] L = if shapeB (parD ([m, b, e], ps.map prL)) = true then .ok (.d (parD ([m, b, e], ps.map prL))) L else _ := rr
  rw [← sh_par, if_pos g.shapeB] at rr'
  exact rr'
theorem one_of_ex {L : LH} {n : Nat} {p : Int} (hn : n < L.length) : ∃ D p', (∃ T : Str, okW T 200 ∧ (∀ L, F_l_text_v2 [.d D] L = .ok (.d (.str T)) L) ∧ (∀ L, F_shape_text [.d D] L = .ok (.d (.str T)) L) ∧ (∀ L, F_read_shape [.d (.str T)] L = .ok (.d D) L) ∧ okShow D) ∧
    ∀ env : En, env[2]? = some (some (.loc n)) → eOp opIx (eDat (fLst (aCons (eCall F_l_shape (aCons (eVar 2) (aCons (eC (.int 6)) (aCons (eC (.int 8)) aNil)))) (aCons (eCall F_l_grown (aCons (eVar 2) (aCons (eCall F_l_take (aCons (eVar 2) (aCons (eC (.int 6)) aNil))) aNil))) aNil)))) (eCall F_l_take (aCons (eVar 2) (aCons (eC (.int 2)) aNil))) env (L.set n (P1 p)) = .ok (.d D) (L.set n (P1 p')) := by
  have zs := sizeLine_eq
  obtain ⟨m1, b1, f1, q1, p1, e1, g1⟩ := shape_ex (L := L) (n := n) (p := p) (top := 6) (bound := 8) hn (by omega) (by omega) (by omega) (by omega)
  obtain ⟨a, p2, a0, a1, e2⟩ := take_ex (L := L) (n := n) (p := p1) (s := 6) hn (by omega)
  obtain ⟨c, rfl⟩ := Int.eq_ofNat_of_zero_le a0
  obtain ⟨m2, q2, p3, e3, gn, l2⟩ := grown_ex (L := L) (n := n) (p := p2) (c := c) hn (by omega)
  obtain ⟨d, p4, d0, d1, e4⟩ := take_ex (L := L) (n := n) (p := p3) (s := 2) hn (by omega)
  have g2 : GoodS 7 8 m2 0 1 q2 := gn.good (by omega)
  have len1 := g1.len
  have t1 := shp_tx g1 (by have := g1.mt; omega) (by omega)
  have t2 := shp_tx g2 (by have := g2.mt; omega) (by omega)
  generalize encS m1 b1 f1 q1 = D1 at *
  generalize encS m2 0 1 q2 = D2 at *
  have ev : ∀ env : En, env[2]? = some (some (.loc n)) → eDat (fLst (aCons (eCall F_l_shape (aCons (eVar 2) (aCons (eC (.int 6)) (aCons (eC (.int 8)) aNil)))) (aCons (eCall F_l_grown (aCons (eVar 2) (aCons (eCall F_l_take (aCons (eVar 2) (aCons (eC (.int 6)) aNil))) aNil))) aNil))) env (L.set n (P1 p)) = .ok (.d (.list [D1, D2])) (L.set n (P1 p3)) := fun env he => by
    have v : ∀ M, eVar 2 env M = .ok (.loc n) M := fun M => by rw [u_eVar, he]
    have k : 0 + 1 + 1 ≤ sizeLine := by omega
    have c1 : eCall F_l_shape (aCons (eVar 2) (aCons (eC (.int 6)) (aCons (eC (.int 8)) aNil))) env (L.set n (P1 p)) = .ok (.d D1) (L.set n (P1 p1)) := by
      rw [u_eCall, u_aCons, v]
      simp [e1]
    have c2 : eCall F_l_take (aCons (eVar 2) (aCons (eC (.int 6)) aNil)) env (L.set n (P1 p1)) = .ok (.d (.int (c : Int))) (L.set n (P1 p2)) := by
      rw [u_eCall, u_aCons, v]
      simp [e2]
    have c3 : eCall F_l_grown (aCons (eVar 2) (aCons (eCall F_l_take (aCons (eVar 2) (aCons (eC (.int 6)) aNil))) aNil)) env (L.set n (P1 p1)) = .ok (.d D2) (L.set n (P1 p3)) := by
      rw [u_eCall, u_aCons, v]
      simp only [Res.bind_ok, u_aCons, c2, u_aNil, e3]
    rw [u_eDat, u_fLst, u_aCons, c1]
    simp only [Res.bind_ok, u_aCons, c3, u_aNil, List.length_cons, List.length_nil, if_pos k]
    rfl
  have c4 : ∀ env : En, env[2]? = some (some (.loc n)) → eCall F_l_take (aCons (eVar 2) (aCons (eC (.int 2)) aNil)) env (L.set n (P1 p3)) = .ok (.d (.int d)) (L.set n (P1 p4)) := fun env he => by
    have v : ∀ M, eVar 2 env M = .ok (.loc n) M := fun M => by rw [u_eVar, he]
    rw [u_eCall, u_aCons, v]
    simp [e4]
  have hd : d = 0 ∨ d = 1 := by omega
  rcases hd with rfl | rfl
  · refine ⟨D1, p4, t1, fun env he => ?_⟩
    rw [u_eOp, ev env he]
    simp only [Res.bind_ok, c4 env he]
    simp [atI, ixN]
  · refine ⟨D2, p4, t2, fun env he => ?_⟩
    rw [u_eOp, ev env he]
    simp only [Res.bind_ok, c4 env he]
    simp [atI, ixN]
theorem k56_inner {x0 x1 x3 x4 : Option Va} {L : LH} {n : Nat} {T : Str} (hn : n < L.length) (hT : okW T 200) : ∀ (j : Nat) (x6 x7 : Option Va) (p : Int) (z8 z9 z10 z11 z12 z13 : Option Va), ∃ y6 y7 p', b_law_k56_1 [x0, x1, some (.loc n), x3, x4, some (.d (.str T)), some (.d (.int j)), x7, z8, z9, z10, z11, z12, z13] (L.set n (P1 p)) = .nx [x0, x1, some (.loc n), x3, x4, some (.d (.str T)), y6, y7, z8, z9, z10, z11, z12, z13] (L.set n (P1 p')) := by
  intro j x6 x7 p z8 z9 z10 z11 z12 z13
  obtain ⟨t1, p1, e1, o1⟩ := bent5_ex (p := p) hn hT (by omega)
  have hT1 : okW t1 231 := o1
  have last : ∀ (t : Str) (q : Int), okW t 262 → sIf (tOrF (tNotF (tVal (eCall F_l_both_v2 (aCons (eVar 5) aNil)))) (tNotF (tVal (eCall F_l_both_v2 (aCons (eVar 7) aNil))))) (sRet (eC (.bool false))) sNil [x0, x1, some (.loc n), x3, x4, some (.d (.str T)), some (.d (.int j)), some (.d (.str t)), z8, z9, z10, z11, z12, z13] (L.set n (P1 q)) = .nx [x0, x1, some (.loc n), x3, x4, some (.d (.str T)), some (.d (.int j)), some (.d (.str t)), z8, z9, z10, z11, z12, z13] (L.set n (P1 q)) := fun t q ht => by
    have b1 := both8_run T (by have := hT.2; omega) hT.1 (L.set n (P1 q))
    have b2 := both8_run t (by have := ht.2; omega) ht.1 (L.set n (P1 q))
    simp [b1, b2]
  have s1 : sSet 7 (eCall F_l_bent_v5 (aCons (eVar 2) (aCons (eVar 5) aNil))) [x0, x1, some (.loc n), x3, x4, some (.d (.str T)), some (.d (.int j)), x7, z8, z9, z10, z11, z12, z13] (L.set n (P1 p)) = .nx [x0, x1, some (.loc n), x3, x4, some (.d (.str T)), some (.d (.int j)), some (.d (.str t1)), z8, z9, z10, z11, z12, z13] (L.set n (P1 p1)) := by
    simp [e1]
  by_cases h6 : (j : Int) > 6
  · obtain ⟨t2, p2, e2, o2⟩ := bent5_ex (p := p1) hn hT1 (by omega)
    refine ⟨_, _, p2, seq_nx s1 (seq_nx (env1 := [x0, x1, some (.loc n), x3, x4, some (.d (.str T)), some (.d (.int j)), some (.d (.str t2)), z8, z9, z10, z11, z12, z13]) (L1 := L.set n (P1 p2)) ?_ (last t2 p2 o2))⟩
    simp [e2, show (6 : Int) < (j : Int) from h6]
  · refine ⟨_, _, p1, seq_nx s1 (seq_nx (env1 := [x0, x1, some (.loc n), x3, x4, some (.d (.str T)), some (.d (.int j)), some (.d (.str t1)), z8, z9, z10, z11, z12, z13]) (L1 := L.set n (P1 p1)) ?_ (last t1 p1 ⟨hT1.1, by have := hT1.2; omega⟩))⟩
    simp [show ¬ (6 : Int) < (j : Int) from h6]
theorem k56_turn (ns : List Int) (hl : ns.length ≤ 63) (j : Nat) (hj : j ≤ 1000) {x2 x3 x4 x5 x6 x7 z8 z9 z10 z11 z12 z13 : Option Va} (M : LH) : ∃ c2 c3 c4 c5 c6 c7 M', b_law_k56_2 [some (.scr ns), some (.d (.int j)), x2, x3, x4, x5, x6, x7, z8, z9, z10, z11, z12, z13] M = .nx [some (.scr ns), some (.d (.int j)), c2, c3, c4, c5, c6, c7, z8, z9, z10, z11, z12, z13] M' := by
  have zs := sizeLine_eq
  obtain ⟨p, ep⟩ := pile_ex (ns := ns) (k := j) (L := M) (by omega) (by omega) hl
  have hs : M ++ [P1 p] = (M ++ [P1 0]).set M.length (P1 p) := by rw [List.set_append_right _ _ (Nat.le_refl _)]; simp
  obtain ⟨L, hL⟩ : ∃ L, L = M ++ [P1 0] := ⟨_, rfl⟩
  have hn : M.length < L.length := by rw [hL]; simp
  rw [← hL] at hs
  generalize hnn : M.length = n at hs hn
  obtain ⟨D, p1, ⟨T, oT, lt, wt, rw', sh⟩, ew⟩ := one_of_ex (L := L) (n := n) (p := p) hn
  have lt := lt (L.set n (P1 p1))
  have wt := wt (L.set n (P1 p1))
  have rw' := rw' (L.set n (P1 p1))
  generalize hS : D.shown = S
  have s1 : sSet 2 (eNew (fCall F_l_pile (aCons (eVar 0) (aCons (eVar 1) aNil)))) [some (.scr ns), some (.d (.int j)), x2, x3, x4, x5, x6, x7, z8, z9, z10, z11, z12, z13] M = .nx [some (.scr ns), some (.d (.int j)), some (.loc n), x3, x4, x5, x6, x7, z8, z9, z10, z11, z12, z13] (L.set n (P1 p)) := by
    simp only [u_sSet, u_eNew, u_fCall, u_aCons, u_aNil, u_eVar, List.getElem?_cons_succ, List.getElem?_cons_zero, Res.bind_ok, List.set_cons_succ, List.set_cons_zero, ep, then_ok, hnn, ← hs]
  have s2 : sSet 3 (eOp opIx (eDat (fLst (aCons (eCall F_l_shape (aCons (eVar 2) (aCons (eC (.int 6)) (aCons (eC (.int 8)) aNil)))) (aCons (eCall F_l_grown (aCons (eVar 2) (aCons (eCall F_l_take (aCons (eVar 2) (aCons (eC (.int 6)) aNil))) aNil))) aNil)))) (eCall F_l_take (aCons (eVar 2) (aCons (eC (.int 2)) aNil)))) [some (.scr ns), some (.d (.int j)), some (.loc n), x3, x4, x5, x6, x7, z8, z9, z10, z11, z12, z13] (L.set n (P1 p)) = .nx [some (.scr ns), some (.d (.int j)), some (.loc n), some (.d D), x4, x5, x6, x7, z8, z9, z10, z11, z12, z13] (L.set n (P1 p1)) := by
    rw [u_sSet, ew _ rfl]
    simp
  have s3 : sSet 4 (eCallB cRepr (aCons (eVar 3) aNil)) [some (.scr ns), some (.d (.int j)), some (.loc n), some (.d D), x4, x5, x6, x7, z8, z9, z10, z11, z12, z13] (L.set n (P1 p1)) = .nx [some (.scr ns), some (.d (.int j)), some (.loc n), some (.d D), some (.d (.str S)), x5, x6, x7, z8, z9, z10, z11, z12, z13] (L.set n (P1 p1)) := by
    simp [sh, hS]
  have s4 : sSet 5 (eCall F_l_text_v2 (aCons (eVar 3) aNil)) [some (.scr ns), some (.d (.int j)), some (.loc n), some (.d D), some (.d (.str S)), x5, x6, x7, z8, z9, z10, z11, z12, z13] (L.set n (P1 p1)) = .nx [some (.scr ns), some (.d (.int j)), some (.loc n), some (.d D), some (.d (.str S)), some (.d (.str T)), x6, x7, z8, z9, z10, z11, z12, z13] (L.set n (P1 p1)) := by
    simp [lt]
  obtain ⟨E, hE⟩ : ∃ E : En, E = [some (.scr ns), some (.d (.int j)), some (.loc n), some (.d D), some (.d (.str S)), some (.d (.str T)), x6, x7, z8, z9, z10, z11, z12, z13] := ⟨_, rfl⟩
  have s5' : sIf (tOrF (tVal (eOp opNe (eCall F_shape_text (aCons (eVar 3) aNil)) (eVar 5))) (tOrF (tVal (eOp opNe (eCallB cRepr (aCons (eCall F_read_shape (aCons (eVar 5) aNil)) aNil)) (eVar 4))) (tVal (eOp opNe (eCallB cRepr (aCons (eVar 3) aNil)) (eVar 4))))) (sRet (eC (.bool false))) sNil E (L.set n (P1 p1)) = .nx E (L.set n (P1 p1)) := by
    have v5 : eVar 5 E (L.set n (P1 p1)) = .ok (.d (.str T)) (L.set n (P1 p1)) := by rw [hE]; rfl
    have v4 : eVar 4 E (L.set n (P1 p1)) = .ok (.d (.str S)) (L.set n (P1 p1)) := by rw [hE]; rfl
    have q1 := ne_same (f := eCall F_shape_text (aCons (eVar 3) aNil)) (g := eVar 5) (env := E) (L := L.set n (P1 p1)) (by rw [hE]; simp [wt]) v5 (smD_str T)
    have q2 := ne_same (f := eCallB cRepr (aCons (eCall F_read_shape (aCons (eVar 5) aNil)) aNil)) (g := eVar 4) (env := E) (L := L.set n (P1 p1)) (by rw [hE]; simp [rw', sh, hS]) v4 (smD_str S)
    have q3 := ne_same (f := eCallB cRepr (aCons (eVar 3) aNil)) (g := eVar 4) (env := E) (L := L.set n (P1 p1)) (by rw [hE]; simp [sh, hS]) v4 (smD_str S)
    rw [u_sIf, u_tOrF, q1]
    simp only [Res.bind_ok, Bool.false_eq_true, if_false]
    rw [u_tOrF, q2]
    simp only [Res.bind_ok, Bool.false_eq_true, if_false, q3, then_ok]
    rfl
  obtain ⟨env', L', lp, ⟨y6, y7, q, rfl, rfl⟩, -⟩ := forL_inv (g := tN 6) (body := b_law_k56_1) (I := fun ws env M' => (∃ y6 y7 q, env = [some (.scr ns), some (.d (.int j)), some (.loc n), some (.d D), some (.d (.str S)), some (.d (.str T)), y6, y7, z8, z9, z10, z11, z12, z13] ∧ M' = L.set n (P1 q)) ∧ ∀ w ∈ ws, ∃ k : Nat, w = Va.d (.int k)) (rngV 0 10) E (L.set n (P1 p1))
    ⟨⟨x6, x7, p1, hE, rfl⟩, fun w hw => by
      simp only [rngV, List.mem_map, List.mem_range] at hw
      obtain ⟨k, hk, rfl⟩ := hw
      exact ⟨k, by simp⟩⟩ (by
    rintro w r env M' ⟨⟨y6, y7, q, rfl, rfl⟩, hw⟩
    obtain ⟨k, rfl⟩ := hw w List.mem_cons_self
    obtain ⟨c6, c7, q', e⟩ := k56_inner (x0 := some (.scr ns)) (x1 := some (.d (.int j))) (x3 := some (.d D)) (x4 := some (.d (.str S))) hn oT k none y7 q z8 z9 z10 z11 z12 z13
    exact ⟨_, _, rfl, _, _, .inl e, ⟨_, _, _, rfl, rfl⟩, fun w h => hw w (List.mem_cons_of_mem _ h)⟩)
  have src : srcR1 (aCons (eC (.int 10)) aNil) E (L.set n (P1 p1)) = .ok (rngV 0 10, none) (L.set n (P1 p1)) := srcR1_int (i := 10) (by simp) (by omega)
  refine ⟨some (.loc n), some (.d D), some (.d (.str S)), some (.d (.str T)), y6, y7, L.set n (P1 q), seq_nx s1 (seq_nx s2 (seq_nx s3 (seq_nx s4 ?_)))⟩
  rw [← hE]
  exact seq_nx s5' (for_nx src lp)
theorem k56_outer (ns : List Int) (hl : ns.length ≤ 63) (N : Nat) (hN : N ≤ 10) : ∃ c1 c2 c3 c4 c5 c6 c7 L', forL (tN 1) b_law_k56_2 (rngV 0 N) [some (.scr ns), none, none, none, none, none, none, none, none, none, none, none, none, none] [] = .nx [some (.scr ns), c1, c2, c3, c4, c5, c6, c7, none, none, none, none, none, none] L' := by
  have loop := forL_inv (g := tN 1) (body := b_law_k56_2) (I := fun ws env M => (∃ a1 a2 a3 a4 a5 a6 a7, env = [some (.scr ns), a1, a2, a3, a4, a5, a6, a7, none, none, none, none, none, none]) ∧ ∀ w ∈ ws, ∃ j : Nat, w = Va.d (.int j) ∧ j < 10) (rngV 0 N) [some (.scr ns), none, none, none, none, none, none, none, none, none, none, none, none, none] []
    ⟨⟨_, _, _, _, _, _, _, rfl⟩, fun w hw => by
      simp only [rngV, List.mem_map, List.mem_range] at hw
      obtain ⟨j, hj, rfl⟩ := hw
      exact ⟨j, by simp, by omega⟩⟩ ?_
  · obtain ⟨env', L', e, ⟨a1, a2, a3, a4, a5, a6, a7, rfl⟩, _⟩ := loop
    exact ⟨_, _, _, _, _, _, _, L', e⟩
  · rintro w r env M ⟨⟨a1, a2, a3, a4, a5, a6, a7, rfl⟩, hw⟩
    obtain ⟨j, rfl, hj⟩ := hw w List.mem_cons_self
    obtain ⟨c2, c3, c4, c5, c6, c7, M', t⟩ := k56_turn ns hl j (by omega) (x2 := a2) (x3 := a3) (x4 := a4) (x5 := a5) (x6 := a6) (x7 := a7) M
    exact ⟨_, _, rfl, _, M', .inl t, ⟨_, _, _, _, _, _, _, rfl⟩, fun w h => hw w (List.mem_cons_of_mem _ h)⟩
end L2.HW
namespace L2.HW
open PySem PySem.Spec PyProof.Rows L2.HW.G PySem.NumText TL
def grP : List Pr := rep 6 [(20, 10), (20, 11), (11, 10)]
abbrev grS : PyData := encS 30 20 10 grP
theorem grS_sh : shapeB grS = true := by decide +kernel
theorem grS_few : fewS grS := by
  have zs := sizeLine_eq
  show 2 + 2 * (grP.map dP).length < sizeLine
  rw [List.length_map, show grP.length = 18 from by decide]
  omega
theorem grS_look (L : LH) : F_look_at_shape [.d grS] L = .ok (.d .none) L := by
  have e1 := F_is_right_shape_eq grS grS_few L
  rw [grS_sh] at e1
  generalize grS = S at *
  simp [F_look_at_shape, b_look_at_shape, mkFn, e1]
theorem grS_sm : SmD grS := ne_self (by decide +kernel) (by decide +kernel)
theorem shp_txG : ∃ T : Str, (∀ L, F_l_text_v2 [.d grS] L = .ok (.d (.str T)) L) ∧ (∀ L, F_shape_text [.d grS] L = .ok (.d (.str T)) L) ∧ (∀ L, F_read_shape [.d (.str T)] L = .ok (.d grS) L) := by
  have e := e30
  have h1 : rng [30, 20, 10] := fun n hn => by
    simp only [List.mem_cons, List.not_mem_nil, or_false] at hn
    rcases hn with rfl | rfl | rfl <;> omega
  have hp : ∀ p ∈ grP, 0 ≤ p.1 ∧ p.1 < 100 ∧ 0 ≤ p.2 ∧ p.2 < 100 := by decide +kernel
  have f2 : ∀ r ∈ grP.map prL, rng r ∧ r.length = 2 := fun r hr => by
    obtain ⟨x, hx, rfl⟩ := List.mem_map.mp hr
    have q := hp x hx
    refine ⟨fun n hn => ?_, rfl⟩
    simp only [prL, List.mem_cons, List.not_mem_nil, or_false] at hn
    rcases hn with rfl | rfl <;> omega
  have ln : (grP.map prL).length ≤ 30 := by decide
  have tl := text_len (head := "shape") (word := "pair") (f := [30, 20, 10]) (rs := grP.map prL) (B := 1000) (by
    have := words_len (word := "shape") h1
    have e3 : [(30 : Int), 20, 10].length = 3 := rfl
    have e4 : ("shape" : Str).length ≤ 100 := by decide +kernel
    omega) (fun r h => by
    obtain ⟨q1, q2⟩ := f2 r h
    have := words_len (word := "pair") q1
    have e4 : ("pair" : Str).length ≤ 100 := by decide +kernel
    omega)
  have pt := parse_text (head := "shape") (word := "pair") (by decide +kernel) (by decide +kernel) (by decide +kernel) (by decide +kernel) h1 rfl f2
  have lt := l_text_v2_run h1 (fun r hr => ⟨(f2 r hr).1, by have := (f2 r hr).2; omega⟩) ln
  have wt := shape_text_run h1 (fun r hr => ⟨(f2 r hr).1, by have := (f2 r hr).2; omega⟩) ln (fun L => by rw [← sh_par]; exact grS_look L)
  rw [← sh_par] at lt wt
  refine ⟨_, lt, wt, fun L => ?_⟩
  have m : ((grP.map prL).length + 1) * (1000 + 1) ≤ (30 + 1) * (1000 + 1) := Nat.mul_le_mul_right _ (by omega)
  have rr := read_shape_run (textT "shape" "pair" [30, 20, 10] (grP.map prL)) (by omega) L
  rw [pt] at rr
  have rr' : F_read_shape [.d (.str (textT "shape" "pair" [30, 20, 10] (grP.map prL)))] L = if shapeB (parD ([30, 20, 10], grP.map prL)) = true then .ok (.d (parD ([30, 20, 10], grP.map prL))) L else _ := rr
  rw [← sh_par, if_pos grS_sh] at rr'
  exact rr'
def pl8 : Str := "shape 3 0 2"
def od8a : List Str := ["shape " ++ strRep 30 "1" ++ " 1 0", "shape " ++ strRep 30 "9" ++ " 1 0\npair 1 2\npair 2 0", "shape " ++ strRep 31 "1" ++ " 1 0"]
def od8b : List Str := ["", "shape", "shape 3 0", pl8, pl8 ++ "\n", "shape 3 0 0", "shape 1 0 1", "Shape 3 0 2"]
def od8c : List Str := ["web 3 0 2", "shape 03 0 2"]
def mo8 : List Str := ["pair 0 1", "pair 0 0", "pair 0", "pair 0 1 ", "pair 2 0", "pair 0 3", "road 0 1", "pair 0 1 1"]
def all8 : List Str := od8a ++ od8b ++ od8c ++ (mo8 ++ (["pair 1 0\npair 0 1"] : List Str)).map (fun w => pl8 ++ "\n" ++ w) ++ wo7.map (fun w => pl8 ++ "\npair 0 1\npair 0 " ++ w)
theorem all8_ok : ∀ w ∈ all8, okW w 700 := by
  have : ∀ w ∈ all8, (PyData.strOk w && decide (w.length ≤ 700)) = true := by decide +kernel
  intro w hw
  have h := this w hw
  rw [Bool.and_eq_true, decide_eq_true_eq] at h
  exact h
theorem three_evL {f g h : EF} {env : En} {M : LH} {a b c : PyData} (h1 : f env M = .ok (.d a) M) (h2 : g env M = .ok (.d b) M) (h3 : h env M = .ok (.d c) M) : fLst (aCons f (aCons g (aCons h aNil))) env M = .ok (.lst [.d a, .d b, .d c]) M := by
  have zs := sizeLine_eq
  have k : 0 + 1 + 1 + 1 ≤ sizeLine := by omega
  rw [u_fLst, u_aCons, h1]
  simp only [Res.bind_ok, u_aCons, h2, h3, u_aNil, List.length_cons, List.length_nil, if_pos k]
theorem law_k56 : ∀ ns : List Int, ns.length ≤ 63 → ∃ L, F_law_k56 [.scr ns] [] = .ok (.d (.bool true)) L := by
  intro ns hl
  have zs := sizeLine_eq
  obtain ⟨c1, c2, c3, c4, c5, c6, c7, M, lp⟩ := k56_outer ns hl (max 2 (min ns.length 10)) (by omega)
  have en : (max 2 (min (ns.length : Int) 10)).toNat = max 2 (min ns.length 10) := by omega
  have rg : -4611686018427387904 ≤ max 2 (min (ns.length : Int) 10) ∧ max 2 (min (ns.length : Int) 10) < 4611686018427387904 := by omega
  have src : srcR1 (aCons (eCallB cMax2 (aCons (eC (.int 2)) (aCons (eCallB cMin2 (aCons (eCallB cLen (aCons (eVar 0) aNil)) (aCons (eC (.int 10)) aNil))) aNil))) aNil) [some (.scr ns), none, none, none, none, none, none, none, none, none, none, none, none, none] [] = .ok (rngV 0 (max 2 (min ns.length 10)), none) [] := by
    rw [← en]
    exact srcR1_int (by simp [-u_cMin2, -u_cMax2, cMin2_eq, cMax2_eq, Va.seq]) rg
  obtain ⟨E2, hE2⟩ : ∃ E2 : Option Va → Option Va → Option Va → Option Va → Option Va → Option Va → En, E2 = fun x10 x11 x12 x13 x14 x15 => [some (.scr ns), c1, c2, c3, c4, c5, c6, c7, x10, x11, x12, x13, x14, x15] := ⟨_, rfl⟩
  obtain ⟨T, lt, wt, rt⟩ := shp_txG
  have s4 : sSet 8 (eTup (aCons (eC (.int 30)) (aCons (eC (.int 20)) (aCons (eC (.int 10)) (aCons (eOp opMul (eTup (aCons (eTup (aCons (eC (.int 20)) (aCons (eC (.int 10)) aNil))) (aCons (eTup (aCons (eC (.int 20)) (aCons (eC (.int 11)) aNil))) (aCons (eTup (aCons (eC (.int 11)) (aCons (eC (.int 10)) aNil))) aNil)))) (eC (.int 6))) aNil))))) (E2 none none none none none none) M = .nx (E2 (some (.d grS)) none none none none none) M := by
    have r6 : grS = .tuple [.int 30, .int 20, .int 10, .tuple (rep 6 [.tuple [.int 20, .int 10], .tuple [.int 20, .int 11], .tuple [.int 11, .int 10]])] := rfl
    rw [r6]
    generalize hR : rep 6 [PyData.tuple [.int 20, .int 10], .tuple [.int 20, .int 11], .tuple [.int 11, .int 10]] = R at *
    have hR' : rep (6 : Int).toNat [PyData.tuple [.int 20, .int 10], .tuple [.int 20, .int 11], .tuple [.int 11, .int 10]] = R := hR
    rw [hE2]
    simp [zs, hR]
  have s5 : (sIf (tOrF (tVal (eOp opNe (eCall F_shape_text (aCons (eVar 8) aNil)) (eCall F_l_text_v2 (aCons (eVar 8) aNil)))) (tVal (eOp opNe (eCall F_read_shape (aCons (eCall F_l_text_v2 (aCons (eVar 8) aNil)) aNil)) (eVar 8)))) (sRet (eC (.bool false))) sNil) (E2 (some (.d grS)) none none none none none) M = .nx (E2 (some (.d grS)) none none none none none) M := by
    have sm := grS_sm
    have lt := lt M
    have wt := wt M
    have rt := rt M
    generalize grS = D at *
    have v10 : eVar 8 (E2 (some (.d D)) none none none none none) M = .ok (.d D) M := by rw [hE2]; rfl
    have q1 := ne_same (f := eCall F_shape_text (aCons (eVar 8) aNil)) (g := eCall F_l_text_v2 (aCons (eVar 8) aNil)) (env := E2 (some (.d D)) none none none none none) (L := M) (x := .str T) (by rw [u_eCall, u_aCons, v10]; simp [wt]) (by rw [u_eCall, u_aCons, v10]; simp [lt]) (smD_str T)
    have q2 := ne_same (f := eCall F_read_shape (aCons (eCall F_l_text_v2 (aCons (eVar 8) aNil)) aNil)) (g := eVar 8) (env := E2 (some (.d D)) none none none none none) (L := M) (x := D) (by rw [u_eCall, u_aCons, u_eCall, u_aCons, v10]; simp [lt, rt]) v10 sm
    rw [u_sIf, u_tOrF, q1]
    simp only [Res.bind_ok, Bool.false_eq_true, if_false, q2, then_ok]
    rfl
  generalize grS = D at *
  have s6 : sSet 9 (eC (.str "shape 3 0 2")) (E2 (some (.d D)) none none none none none) M = .nx (E2 (some (.d D)) (some (.d (.str pl8))) none none none none) M := by
    rw [hE2]; rfl
  obtain ⟨G, hG⟩ : ∃ G : Option Va → Option Va → Option Va → Option Va → En, G = fun x12 x13 x14 x15 => E2 (some (.d D)) (some (.d (.str pl8))) x12 x13 x14 x15 := ⟨_, rfl⟩
  have gl : ∀ a b c d, (G a b c d).length = 14 := fun a b c d => by rw [hG, hE2]; rfl
  have g11 : ∀ a b c d N, eVar 9 (G a b c d) N = .ok (.d (.str pl8)) N := fun a b c d N => by rw [hG, hE2]; rfl
  have s7 : sSet 10 (eNew (fLst (aCons (eOp opAdd (eOp opAdd (eC (.str "shape ")) (eOp opMulS (eC (.str "1")) (eC (.int 30)))) (eC (.str " 1 0"))) (aCons (eOp opAdd (eOp opAdd (eC (.str "shape ")) (eOp opMulS (eC (.str "9")) (eC (.int 30)))) (eC (.str " 1 0\npair 1 2\npair 2 0"))) (aCons (eOp opAdd (eOp opAdd (eC (.str "shape ")) (eOp opMulS (eC (.str "1")) (eC (.int 31)))) (eC (.str " 1 0"))) aNil))))) (G none none none none) M = .nx (G (some (.loc M.length)) none none none) (M ++ [lstS od8a]) := by
    have m1 := mul_ev (env := G none none none none) (M := M) (k := 30) (m := "1") (by decide +kernel)
    have m2 := mul_ev (env := G none none none none) (M := M) (k := 30) (m := "9") (by decide +kernel)
    have m3 := mul_ev (env := G none none none none) (M := M) (k := 31) (m := "1") (by decide +kernel)
    have a1 := cat3_ev (a := "shape ") (c := " 1 0") m1 (by decide +kernel)
    have a2 := cat3_ev (a := "shape ") (c := " 1 0\npair 1 2\npair 2 0") m2 (by decide +kernel)
    have a3 := cat3_ev (a := "shape ") (c := " 1 0") m3 (by decide +kernel)
    have := newS (q := 10) (xs := od8a) (three_evL a1 a2 a3) (by rw [gl]; omega)
    rw [hG, hE2] at this ⊢
    exact this
  have st8 : ∀ N : LH, (eDat (fLst (aCons (eC (.str "")) (aCons (eC (.str "shape")) (aCons (eC (.str "shape 3 0")) (aCons (eVar 9) (aCons (eOp opAdd (eVar 9) (eC (.str "\n"))) (aCons (eC (.str "shape 3 0 0")) (aCons (eC (.str "shape 1 0 1")) (aCons (eC (.str "Shape 3 0 2")) aNil)))))))))) (G (some (.loc M.length)) none none none) N = .ok (.d (.list (od8b.map PyData.str))) N := fun N => by
    have b1 := add_str_ev (f := eVar 9) (g := eC (.str "\n")) (env := G (some (.loc M.length)) none none none) (L := N) (M := N) (g11 _ _ _ _ N) (by rw [u_eC]) (by decide +kernel)
    have b3 := g11 (some (.loc M.length)) none none none N
    have k : 0 + 1 + 1 + 1 + 1 + 1 + 1 + 1 + 1 ≤ sizeLine := by omega
    rw [u_eDat, u_fLst]
    simp only [u_aCons, u_eC, Res.bind_ok, b1, b3, u_aNil, List.length_cons, List.length_nil, if_pos k]
    rfl
  have s8 : sSet 10 (eNew (fCat (eVar 10) (eDat (fLst (aCons (eC (.str "")) (aCons (eC (.str "shape")) (aCons (eC (.str "shape 3 0")) (aCons (eVar 9) (aCons (eOp opAdd (eVar 9) (eC (.str "\n"))) (aCons (eC (.str "shape 3 0 0")) (aCons (eC (.str "shape 1 0 1")) (aCons (eC (.str "Shape 3 0 2")) aNil)))))))))))) (G (some (.loc M.length)) none none none) (M ++ [lstS od8a]) = .nx (G (some (.loc (M ++ [lstS od8a]).length)) none none none) (M ++ [lstS od8a] ++ [lstS (od8a ++ od8b)]) := by
    have ct := catS_ev (M' := []) (f := eVar 10) (env := G (some (.loc M.length)) none none none) (M := M ++ [lstS od8a]) (n := M.length) (xs := od8a) (ys := od8b) (by rw [hG, hE2]; rfl) app_get (st8 _) (by decide)
    have := newS (q := 10) (xs := od8a ++ od8b) ct (by rw [gl]; omega)
    rw [hG, hE2] at this ⊢
    exact this
  obtain ⟨M2, hM2⟩ : ∃ M2, M2 = M ++ [lstS od8a] := ⟨_, rfl⟩
  have s9 : sSet 10 (eNew (fCat (eVar 10) (eDat (fLst (aCons (eC (.str "web 3 0 2")) (aCons (eC (.str "shape 03 0 2")) aNil)))))) (G (some (.loc M2.length)) none none none) (M2 ++ [lstS (od8a ++ od8b)]) = .nx (G (some (.loc (M2 ++ [lstS (od8a ++ od8b)]).length)) none none none) (M2 ++ [lstS (od8a ++ od8b)] ++ [lstS (od8a ++ od8b ++ od8c)]) := by
    have o : (eDat (fLst (aCons (eC (.str "web 3 0 2")) (aCons (eC (.str "shape 03 0 2")) aNil)))) (G (some (.loc M2.length)) none none none) (M2 ++ [lstS (od8a ++ od8b)]) = .ok (.d (.list (od8c.map PyData.str))) (M2 ++ [lstS (od8a ++ od8b)]) := by
      rw [u_eDat, two_ev (a := .str "web 3 0 2") (b := .str "shape 03 0 2") (by rw [u_eC]) (by rw [u_eC])]
      rfl
    have ct := catS_ev (M' := []) (f := eVar 10) (env := G (some (.loc M2.length)) none none none) (M := M2 ++ [lstS (od8a ++ od8b)]) (n := M2.length) (xs := od8a ++ od8b) (ys := od8c) (by rw [hG, hE2]; rfl) app_get o (by decide)
    have := newS (q := 10) (xs := od8a ++ od8b ++ od8c) ct (by rw [gl]; omega)
    rw [hG, hE2] at this ⊢
    exact this
  obtain ⟨M3, hM3⟩ : ∃ M3, M3 = M2 ++ [lstS (od8a ++ od8b)] := ⟨_, rfl⟩
  obtain ⟨M4, hM4⟩ : ∃ M4, M4 = M3 ++ [lstS []] := ⟨_, rfl⟩
  have m4 : ∀ xs, M3 ++ [lstS xs] = M4.set M3.length (lstS xs) := fun xs => by rw [hM4, List.set_append_right _ _ (Nat.le_refl _)]; simp
  have hl4 : M3.length < M4.length := by rw [hM4]; simp
  generalize hq : M3.length = q at *
  have s10 : sSet 11 (eDat (fLst (aCons (eC (.str "pair 0 1")) (aCons (eC (.str "pair 0 0")) (aCons (eC (.str "pair 0")) (aCons (eC (.str "pair 0 1 ")) (aCons (eC (.str "pair 2 0")) (aCons (eC (.str "pair 0 3")) (aCons (eC (.str "road 0 1")) (aCons (eC (.str "pair 0 1 1")) aNil)))))))))) (G (some (.loc q)) none none none) (M4.set q (lstS (od8a ++ od8b ++ od8c))) = .nx (G (some (.loc q)) (some (.d (.list (mo8.map PyData.str)))) none none) (M4.set q (lstS (od8a ++ od8b ++ od8c))) := by
    have k : 0 + 1 + 1 + 1 + 1 + 1 + 1 + 1 + 1 ≤ sizeLine := by omega
    rw [u_sSet, u_eDat, u_fLst]
    simp only [u_aCons, u_eC, Res.bind_ok, u_aNil, List.length_cons, List.length_nil, if_pos k, then_ok]
    rw [hG, hE2]
    rfl
  obtain ⟨N0, hN0⟩ : ∃ N0, N0 = M4.set q (lstS (od8a ++ od8b ++ od8c)) := ⟨_, rfl⟩
  have sc1 : (srcV (eOp opAdd (eVar 11) (eDat (fLst (aCons (eC (.str "pair 1 0\npair 0 1")) aNil))))) (G (some (.loc q)) (some (.d (.list (mo8.map PyData.str)))) none none) N0 = .ok (((mo8 ++ (["pair 1 0\npair 0 1"] : List Str)).map PyData.str).map Va.d, none) N0 := by
    have o := one_ev (f := eC (.str "pair 1 0\npair 0 1")) (env := G (some (.loc q)) (some (.d (.list (mo8.map PyData.str)))) none none) (L := N0) (by rw [u_eC])
    have ca := cat_ev (f := eVar 11) (xs := mo8.map PyData.str) (by rw [hG, hE2]; rfl) o (by decide)
    rw [u_srcV, ca]
    rfl
  obtain ⟨y14, a1⟩ := apps_loop (i := 12) (q := 10) (n := q) (f := eOp opAdd (eOp opAdd (eVar 9) (eC (.str "\n"))) (eVar 12)) (env0 := G (some (.loc q)) (some (.d (.list (mo8.map PyData.str)))) none none) (L := M4) (h := fun w => pl8 ++ "\n" ++ w) (by decide) (by rw [gl]; omega) (by rw [hG, hE2]; rfl) hl4 (mo8 ++ (["pair 1 0\npair 0 1"] : List Str)) (od8a ++ od8b ++ od8c) none (fun w hw N => by
    have lw : w.length ≤ 100 := by
      have : ∀ w ∈ mo8 ++ (["pair 1 0\npair 0 1"] : List Str), w.length ≤ 100 := by decide +kernel
      exact this w hw
    have lp : pl8.length ≤ 100 := by decide +kernel
    have ln : ("\n" : Str).length ≤ 100 := by decide +kernel
    have b1 := add_str_ev (f := eVar 9) (g := eC (.str "\n")) (env := (G (some (.loc q)) (some (.d (.list (mo8.map PyData.str)))) none none).set 12 (some (.d (.str w)))) (L := N) (M := N) (a := pl8) (by rw [hG, hE2]; rfl) (by rw [u_eC]) (by omega)
    exact add_str_ev b1 (by rw [hG, hE2]; rfl) (by rw [len_app]; omega)) (by decide)
  have lp1 : forL (tN 12) b_law_k56_3 (((mo8 ++ (["pair 1 0\npair 0 1"] : List Str)).map PyData.str).map Va.d) (G (some (.loc q)) (some (.d (.list (mo8.map PyData.str)))) none none) N0 = .nx (G (some (.loc q)) (some (.d (.list (mo8.map PyData.str)))) y14 none) (M4.set q (lstS (od8a ++ od8b ++ od8c ++ (mo8 ++ (["pair 1 0\npair 0 1"] : List Str)).map fun w => pl8 ++ "\n" ++ w))) := by
    rw [hN0, hG, hE2] at *
    exact a1
  obtain ⟨acc2, hacc2⟩ : ∃ acc2, acc2 = od8a ++ od8b ++ od8c ++ (mo8 ++ (["pair 1 0\npair 0 1"] : List Str)).map fun w => pl8 ++ "\n" ++ w := ⟨_, rfl⟩
  have sc2 : ∀ N, (srcV (eDat (fLst (aCons (eOp opMulS (eC (.str "9")) (eC (.int 30))) (aCons (eOp opMulS (eC (.str "9")) (eC (.int 31))) (aCons (eC (.str "01")) (aCons (eC (.str "-1")) (aCons (eC (.str "x")) aNil)))))))) (G (some (.loc q)) (some (.d (.list (mo8.map PyData.str)))) y14 none) N = .ok ((wo7.map PyData.str).map Va.d, none) N := fun N => by
    have m1 := mul_ev (env := G (some (.loc q)) (some (.d (.list (mo8.map PyData.str)))) y14 none) (M := N) (k := 30) (m := "9") (by decide +kernel)
    have m2 := mul_ev (env := G (some (.loc q)) (some (.d (.list (mo8.map PyData.str)))) y14 none) (M := N) (k := 31) (m := "9") (by decide +kernel)
    have m1 : eOp opMulS (eC (.str "9")) (eC (.int 30)) (G (some (.loc q)) (some (.d (.list (mo8.map PyData.str)))) y14 none) N = .ok (.d (.str (strRep 30 "9"))) N := m1
    have m2 : eOp opMulS (eC (.str "9")) (eC (.int 31)) (G (some (.loc q)) (some (.d (.list (mo8.map PyData.str)))) y14 none) N = .ok (.d (.str (strRep 31 "9"))) N := m2
    have k : 0 + 1 + 1 + 1 + 1 + 1 ≤ sizeLine := by omega
    rw [u_srcV, u_eDat, u_fLst]
    simp only [u_aCons, u_eC, Res.bind_ok, m1, m2, u_aNil, List.length_cons, List.length_nil, if_pos k]
    rfl
  obtain ⟨y15, a2⟩ := apps_loop (i := 13) (q := 10) (n := q) (f := eOp opAdd (eOp opAdd (eVar 9) (eC (.str "\npair 0 1\npair 0 "))) (eVar 13)) (env0 := G (some (.loc q)) (some (.d (.list (mo8.map PyData.str)))) y14 none) (L := M4) (h := fun w => pl8 ++ "\npair 0 1\npair 0 " ++ w) (by decide) (by rw [gl]; omega) (by rw [hG, hE2]; rfl) hl4 wo7 acc2 none (fun w hw N => by
    have lw : w.length ≤ 100 := by
      have : ∀ w ∈ wo7, w.length ≤ 100 := by decide +kernel
      exact this w hw
    have lp : pl8.length ≤ 100 := by decide +kernel
    have ln : ("\npair 0 1\npair 0 " : Str).length ≤ 100 := by decide +kernel
    have b1 := add_str_ev (f := eVar 9) (g := eC (.str "\npair 0 1\npair 0 ")) (env := (G (some (.loc q)) (some (.d (.list (mo8.map PyData.str)))) y14 none).set 13 (some (.d (.str w)))) (L := N) (M := N) (a := pl8) (by rw [hG, hE2]; rfl) (by rw [u_eC]) (by omega)
    exact add_str_ev b1 (by rw [hG, hE2]; rfl) (by rw [len_app]; omega)) (by rw [hacc2]; decide)
  have lp2 : forL (tN 13) b_law_k56_4 ((wo7.map PyData.str).map Va.d) (G (some (.loc q)) (some (.d (.list (mo8.map PyData.str)))) y14 none) (M4.set q (lstS acc2)) = .nx (G (some (.loc q)) (some (.d (.list (mo8.map PyData.str)))) y14 y15) (M4.set q (lstS all8)) := by
    have : all8 = acc2 ++ wo7.map fun w => pl8 ++ "\npair 0 1\npair 0 " ++ w := by rw [hacc2]; rfl
    rw [this]
    rw [hG, hE2] at *
    exact a2
  have fin := odds_run (F := F_l_both_v2) (q := 10) (v := 5) (n := q) (env := G (some (.loc q)) (some (.d (.list (mo8.map PyData.str)))) y14 y15) (L := M4.set q (lstS all8)) (xs := all8) (by simp [hl4]) (by decide) (by rw [gl]; omega) (by rw [hG, hE2]; rfl) (fun x hx N => both8_run x (all8_ok x hx).2 (all8_ok x hx).1 N)
  refine ⟨[], fn_out (L' := M4.set q (lstS all8)) (w := .d (.bool true)) rfl ?_ (settle_d _ _ _ _) (outV_nil _ _)⟩
  show b_law_k56 [some (.scr ns), none, none, none, none, none, none, none, none, none, none, none, none, none] [] = _
  refine seq_nx (for_nx src lp) ?_
  have e1 : [some (.scr ns), c1, c2, c3, c4, c5, c6, c7, none, none, none, none, none, none] = E2 none none none none none none := by rw [hE2]
  have e2 : E2 (some (.d D)) (some (.d (.str pl8))) none none none none = G none none none none := by rw [hG]
  rw [e1]
  refine seq_nx s4 (seq_nx s5 (seq_nx s6 ?_))
  rw [e2]
  refine seq_nx s7 (seq_nx s8 ?_)
  rw [← hM2]
  refine seq_nx s9 ?_
  rw [← hM3, hq, m4]
  refine seq_nx s10 (seq_nx (for_nx (hN0 ▸ sc1) (hN0 ▸ lp1)) ?_)
  rw [← hacc2]
  refine seq_nx (for_nx (sc2 _) lp2) ?_
  rw [u_sRet, fin]
  rfl
end L2.HW
set_option maxHeartbeats 0
open PySem PySem.W PySem.Calls PyProof.Rows
theorem PySem.Challenge.cw_hastyways_k56_shapes_written_holds : PySem.Challenge.rw_hastyways_k56_shapes_written.Holds := by
  w_on; o_law
  refine HandSHeadRun.head_any (r := OpenLaw.row PySem.Challenge.rw_hastyways_k56_shapes_written) (q := view (OpenLaw.row PySem.Challenge.rw_hastyways_k56_shapes_written).prog [50]) (H := L2.HW.R_k56.hk) (ob := L2.HW.R_k56.ob) (M := 8000) (loose := L2.HW.R_k56.loo) (d := HandSHeadRun.topDef (OpenLaw.row PySem.Challenge.rw_hastyways_k56_shapes_written).prog 50) (kwd := []) L2.HW.R_k56.ob_eq
    (by kernel_rfl) (fun s => by kernel_rfl) L2.HW.R_k56.run (by kernel_rfl) (by kernel_rfl) (by kernel_rfl) (by rfl) (by first | assumption | decide +kernel) (by decide +kernel) ⟨rfl, rfl, rfl, rfl, rfl, by decide +kernel⟩ ?hw ?hc
  case hw => w_witness2
  case hc =>
    refine L2.HW.walk_hw (l := PySem.Challenge.rw_hastyways_k56_shapes_written) (n := 63) (k := 8) (x := "_law_script") (Fl := L2.HW.F_law_k56) rfl (by decide) (by kernel_rfl) ⟨rfl, by decide, by decide⟩ L2.HW.law_k56 ?F
    intro w mg fa h Y G hmg0
    obtain ⟨K, KX, c, cE⟩ := Y
    have hmg : mg ("law" : PySem.Str) = some (.ref fa) := by
      have e : (HandSHeadRun.topDef (OpenLaw.row PySem.Challenge.rw_hastyways_k56_shapes_written).prog 50).name = ("law" : PySem.Str) := by kernel_rfl
      rw [← e]
      exact hmg0
    exact L2.HW.law_end (fun base => L2.HW.R_k56.facts KX G c cE) hmg KX
