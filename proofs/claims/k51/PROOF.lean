import PyProof.Rows.All
import HandS.ForMost
import HandS.Exc
import HandS.ExcInit
import HandS.Wide
import HandS.TupAny
import HandS.TupMul
import HandS.TupLe
import HandS.Style
import HandS.Deep
import HandS.Star
import HandS.IsInst
import HandS.SortInts
import HandS.Conv
import HandS.TryOnly
import HandS.More
import HandS.Defaults
import HandS.WordsExc
import HandS.ExcOwn
import HandS.Ends
import HandS.HeadEnd
import HandS.DictComp
import HandS.Iter
import KE.GoesEnum
import HandS.HeadHook1
import HandS.DictTup
import HandS.SortRule
import KE.DataMinMax
import HandS.SortKw
import PyProof.Claim2Refuses
import HandS.Zip
import KE.KExcIs
import HandS.Head2
import HandS.HeadHook2
import HandS.SetKeys
import KE.KDictWalk
import KE.KSortKeySt
import HandS.Text
import PyProof.StrOps2
import HandS.ExcField
import HandS.ForSpec
import KE.DatumOrd
import KE.IntTextLaws
import KE.IntTextText
import PySem.Challenge.RW_hastyways_k51_sites_beside_one_another
import KE.KStateDown
import HandS.Words
import HandS.Head0
import HandS.Head1
import OpenK.AllK
import Wide.FinOn
set_option Elab.async false
set_option linter.all false
set_option maxRecDepth 100000
namespace L2.HW
open PySem PySem.Spec PyProof.Rows

inductive Va where
  | d (x : PyData)
  | loc (n : Nat)
  | tup (ws : List Va)
  | dct (kvs : List (Int × PyData))
  | exc (c : Str) (f : Option PyData)
  | scr (ns : List Int)
inductive Ob where
  | lst (ws : List Va)
  | di (kvs : List (Int × Va))
  | dt (kvs : List (List Int × Va))
  | ins (c : Str) (fs : List (Str × Va))
abbrev LH := List (Option Ob)
abbrev En := List (Option Va)
inductive Res (α : Type) where
  | ok (a : α) (L : LH)
  | exc (c : Str) (f : Option PyData) (L : LH)
  | stuck
def Res.bind {α β : Type} (r : Res α) (k : α → LH → Res β) : Res β :=
  match r with
  | .ok a L => k a L
  | .exc c f L => .exc c f L
  | .stuck => .stuck
@[simp] theorem Res.bind_ok {α β : Type} (a : α) (L : LH) (k : α → LH → Res β) : (Res.ok a L).bind k = k a L := (rfl)
@[simp] theorem Res.bind_exc {α β : Type} (c : Str) (f : Option PyData) (L : LH) (k : α → LH → Res β) : (Res.exc c f L).bind k = .exc c f L := (rfl)
@[simp] theorem Res.bind_stuck {α β : Type} (k : α → LH → Res β) : (Res.stuck).bind k = .stuck := (rfl)
abbrev EF := En → LH → Res Va

def mask (H : Hp) (P : List Addr) : Hp := fun b => if b ∈ P then none else H b
theorem mask_of {H : Hp} {P : List Addr} {b : Addr} {o : HO} (n : b ∉ P) (e : H b = some o) : mask H P b = some o := by
  unfold mask; rw [if_neg n]; exact e
theorem of_mask {H : Hp} {P : List Addr} {b : Addr} {o : HO} (e : mask H P b = some o) : b ∉ P ∧ H b = some o := by
  unfold mask at e
  split at e
  · cases e
  · exact ⟨by assumption, e⟩
def Le (M M' : Hp) : Prop := ∀ b o, M b = some o → M' b = some o
theorem Le.refl (M : Hp) : Le M M := fun _ _ e => e
theorem Le.trans {A B C : Hp} (h : Le A B) (k : Le B C) : Le A C := fun b o e => k b o (h b o e)
theorem mask_le (H : Hp) (P : List Addr) : Le (mask H P) H := fun _ _ e => (of_mask e).2
theorem Rd.le {M M' : Hp} (h : Le M M') {a : Addr} {u : HO} (r : Rd M a u) : Rd M' a u := by
  rcases r with r | ⟨o, r⟩
  · exact .inl (h _ _ r)
  · exact .inr ⟨o, h _ _ r⟩
theorem SqL.le {K : PySem.W.Frag} {M M' : Hp} (h : Le M M') {a : Addr} {xs : List V} (r : SqL K M a xs) : SqL K M' a xs := by
  rcases r with r | r
  · exact .inl (Rd.le h r)
  · exact .inr r
mutual
/-- v is the data x -/
inductive Dq (M : Hp) : V → PyData → Prop
  | non : Dq M .non .none
  | bl (b : Bool) : Dq M (.bl b) (.bool b)
  | int (i : Int) : Dq M (.int i) (.int i)
  | str (x : Str) : Dq M (.str x) (.str x)
  | lst {a : Addr} {xs : List V} {ds : List PyData} : M a = some (.lst xs) → DqAll M xs ds → Dq M (.ref a) (.list ds)
  | tup {a : Addr} {xs : List V} {ds : List PyData} : M a = some (.tup xs) → DqAll M xs ds → Dq M (.ref a) (.tuple ds)
inductive DqAll (M : Hp) : List V → List PyData → Prop
  | nil : DqAll M [] []
  | cons {v : V} {vs : List V} {d : PyData} {ds : List PyData} : Dq M v d → DqAll M vs ds → DqAll M (v :: vs) (d :: ds)
end
mutual
theorem Dq.le {M M' : Hp} (h : Le M M') : ∀ {v : V} {x : PyData}, Dq M v x → Dq M' v x
  | _, _, .non => .non
  | _, _, .bl b => .bl b
  | _, _, .int i => .int i
  | _, _, .str x => .str x
  | _, _, .lst q r => .lst (h _ _ q) (DqAll.le h r)
  | _, _, .tup q r => .tup (h _ _ q) (DqAll.le h r)
theorem DqAll.le {M M' : Hp} (h : Le M M') : ∀ {vs : List V} {xs : List PyData}, DqAll M vs xs → DqAll M' vs xs
  | _, _, .nil => .nil
  | _, _, .cons a b => .cons (Dq.le h a) (DqAll.le h b)
end
mutual
theorem Dq.dp {K : PySem.W.Frag} {M : Hp} : ∀ {v : V} {x : PyData}, Dq M v x → Dp K M v x
  | _, _, .non => .non
  | _, _, .bl b => .bl b
  | _, _, .int i => .int i
  | _, _, .str x => .str x
  | _, _, .lst q r => .lst (SqL.of q) (DqAll.dp r)
  | _, _, .tup q r => .tup (SqT.of q) (DqAll.dp r)
theorem DqAll.dp {K : PySem.W.Frag} {M : Hp} : ∀ {vs : List V} {xs : List PyData}, DqAll M vs xs → DpAll K M vs xs
  | _, _, .nil => .nil
  | _, _, .cons a b => .cons (Dq.dp a) (DqAll.dp b)
end
theorem DqAll.len {M : Hp} : ∀ {vs : List V} {xs : List PyData}, DqAll M vs xs → vs.length = xs.length
  | _, _, .nil => rfl
  | _, _, .cons _ b => by simp [DqAll.len b]

def exk (e C : Addr) (d : Option Addr) : HO := .ext fun h => ∃ (oe : Obj) (vs : Array Value), h.get? e = some oe ∧ oe.cls = .ref C ∧ oe.dict = d ∧ oe.data = .fields vs
def ExR (mg : Str → Option Value) (M : Hp) (c : Str) (f : Option PyData) (cls : Value) (d : Option Addr) : Prop :=
  ∃ C : Addr, mg c = some (.ref C) ∧ cls = .ref C ∧ match f with
    | none => d = none
    | some x => ∃ dd v, d = some dd ∧ M dd = some (.xd [("spot", v)]) ∧ Dq M v x
theorem ExR.le {mg : Str → Option Value} {M M' : Hp} (h : Le M M') {c : Str} {f : Option PyData} {cls : Value} {d : Option Addr} (r : ExR mg M c f cls d) : ExR mg M' c f cls d := by
  obtain ⟨C, h1, h2, h3⟩ := r
  refine ⟨C, h1, h2, ?_⟩
  cases f with
  | none => exact h3
  | some x =>
    obtain ⟨dd, v, e1, e2, e3⟩ := h3
    exact ⟨dd, v, e1, h _ _ e2, Dq.le h e3⟩

def KDp (M : Hp) : List (Key × V) → List (Int × PyData) → Prop := Paired fun (p : Key × V) (q : Int × PyData) => p.1 = Sum.inl q.1 ∧ Dq M p.2 q.2
theorem Paired.map2 {α β : Type} {F G : α → β → Prop} (h : ∀ a b, F a b → G a b) : ∀ {xs : List α} {ys : List β}, Paired F xs ys → Paired G xs ys
  | _, _, .nil => .nil
  | _, _, .cons a b => .cons (h _ _ a) (Paired.map2 h b)
theorem KDp.le {M M' : Hp} (h : Le M M') {a : List (Key × V)} {b : List (Int × PyData)} (r : KDp M a b) : KDp M' a b :=
  Paired.map2 (fun _ _ q => ⟨q.1, Dq.le h q.2⟩) r

inductive Rp (K : PySem.W.Frag) (mg : Str → Option Value) (M : Hp) (al : List Addr) : V → Va → Prop where
  | d {v : V} {x : PyData} : Dq M v x → Rp K mg M al v (.d x)
  | loc {n : Nat} {a : Addr} : al[n]? = some a → Rp K mg M al (.ref a) (.loc n)
  | tup {a : Addr} {vs : List V} {ws : List Va} : M a = some (.tup vs) → Paired (Rp K mg M al) vs ws → Rp K mg M al (.ref a) (.tup ws)
  | dct {a : Addr} {kvs : List (Key × V)} {ks : List (Int × PyData)} : M a = some (.dK kvs) → KDp M kvs ks → Rp K mg M al (.ref a) (.dct ks)
  | exc {a : Addr} {C : Addr} {c : Str} {f : Option PyData} {d : Option Addr} : M a = some (exk a C d) → ExR mg M c f (.ref C) d → Rp K mg M al (.ref a) (.exc c f)
  | scr {a : Addr} {ns : List Int} : SqL K M a (ns.map V.int) → Rp K mg M al (.ref a) (.scr ns)
end L2.HW
namespace L2.HW
open PySem PySem.Spec PyProof.Rows
section
variable {K : PySem.W.Frag} {mg : Str → Option Value}
abbrev Rps (K : PySem.W.Frag) (mg : Str → Option Value) (M : Hp) (al : List Addr) : List V → List Va → Prop := Paired (Rp K mg M al)
def ALe (al al' : List Addr) : Prop := ∀ (n : Nat) (a : Addr), al[n]? = some a → al'[n]? = some a
theorem ALe.refl (al : List Addr) : ALe al al := fun _ _ e => e
theorem ALe.app (al be : List Addr) : ALe al (al ++ be) := fun n a e => by
  obtain ⟨h, _⟩ := List.getElem?_eq_some_iff.mp e
  rw [List.getElem?_append_left h]; exact e
mutual
theorem Rp.le {M M' : Hp} {al al' : List Addr} (h : Le M M') (ha : ALe al al') : ∀ {v : V} {w : Va}, Rp K mg M al v w → Rp K mg M' al' v w
  | _, _, .d q => .d (Dq.le h q)
  | _, _, .loc e => .loc (ha _ _ e)
  | _, _, .scr q => .scr (SqL.le h q)
  | _, _, .tup q r => .tup (h _ _ q) (Rps.le h ha r)
  | _, _, .dct e q => .dct (h _ _ e) (KDp.le h q)
  | _, _, .exc e q => .exc (h _ _ e) (ExR.le h q)
theorem Rps.le {M M' : Hp} {al al' : List Addr} (h : Le M M') (ha : ALe al al') : ∀ {vs : List V} {ws : List Va}, Rps K mg M al vs ws → Rps K mg M' al' vs ws
  | _, _, .nil => .nil
  | _, _, .cons a b => .cons (Rp.le h ha a) (Rps.le h ha b)
end

def KRp (K : PySem.W.Frag) (mg : Str → Option Value) (M : Hp) (al : List Addr) : List (Key × V) → List (Int × Va) → Prop := Paired fun (p : Key × V) (q : Int × Va) => p.1 = Sum.inl q.1 ∧ Rp K mg M al p.2 q.2
def TRp (K : PySem.W.Frag) (mg : Str → Option Value) (M : Hp) (al : List Addr) : List (List Key × V) → List (List Int × Va) → Prop := Paired fun (p : List Key × V) (q : List Int × Va) => p.1 = q.1.map Sum.inl ∧ Rp K mg M al p.2 q.2
def FRp (K : PySem.W.Frag) (mg : Str → Option Value) (M : Hp) (al : List Addr) : List (Str × V) → List (Str × Va) → Prop := Paired fun (p : Str × V) (q : Str × Va) => p.1 = q.1 ∧ Rp K mg M al p.2 q.2
def ObR (K : PySem.W.Frag) (mg : Str → Option Value) (M : Hp) (al : List Addr) (H : Hp) (a : Addr) : Ob → Prop
  | .lst ws => ∃ vs, H a = some (.lst vs) ∧ Rps K mg M al vs ws
  | .di kvs => ∃ ks, H a = some (.dK ks) ∧ KRp K mg M al ks kvs
  | .dt kvs => ∃ ks, H a = some (.dT ks) ∧ TRp K mg M al ks kvs
  | .ins c fs => ∃ C dx ks, mg c = some (.ref C) ∧ H a = some (.ins C dx ks) ∧ FRp K mg M al ks fs
theorem ObR.le {M M' H H' : Hp} {al al' : List Addr} {a : Addr} (h : Le M M') (ha : ALe al al') (hh : ∀ o, H a = some o → H' a = some o) : ∀ {o : Ob}, ObR K mg M al H a o → ObR K mg M' al' H' a o
  | .lst ws, ⟨vs, e, r⟩ => ⟨vs, hh _ e, Rps.le h ha r⟩
  | .di kvs, ⟨ks, e, r⟩ => ⟨ks, hh _ e, Paired.map2 (fun _ _ q => ⟨q.1, Rp.le h ha q.2⟩) r⟩
  | .dt kvs, ⟨ks, e, r⟩ => ⟨ks, hh _ e, Paired.map2 (fun _ _ q => ⟨q.1, Rp.le h ha q.2⟩) r⟩
  | .ins c fs, ⟨C, dx, ks, e1, e2, r⟩ => ⟨C, dx, ks, e1, hh _ e2, Paired.map2 (fun _ _ q => ⟨q.1, Rp.le h ha q.2⟩) r⟩
structure Rel (K : PySem.W.Frag) (mg : Str → Option Value) (H : Hp) (al T : List Addr) (L : LH) : Prop where
  len : al.length = L.length
  nd : al.Nodup
  dis : ∀ a ∈ al, a ∉ T
  trk : ∀ a, a ∈ al ∨ a ∈ T → H a ≠ none
  cell : ∀ (n : Nat) (o : Ob), L[n]? = some (some o) → ∃ a, al[n]? = some a ∧ ObR K mg (mask H (al ++ T)) al H a o
def Alv (al : List Addr) (L : LH) (b : Addr) : Prop := ∃ (n : Nat) (o : Ob), al[n]? = some b ∧ L[n]? = some (some o)
structure Stp (K : PySem.W.Frag) (mg : Str → Option Value) (H : Hp) (al T : List Addr) (L : LH) (H' : Hp) (al' T' : List Addr) (L' : LH) : Prop where
  rel : Rel K mg H' al' T' L'
  ext : ∃ be, al' = al ++ be ∧ ∀ b ∈ be, H b = none
  text : ∃ te, T' = te ++ T ∧ ∀ b ∈ te, H b = none
  frame : ∀ b o, H b = some o → ¬ Alv al L b → H' b = some o
  stay : ∀ b, H b ≠ none → H' b ≠ none
  lck : ∀ (n : Nat), L[n]? = some none → L'[n]? = some none
  alv : ∀ (n : Nat) (o : Ob), L[n]? = some (some o) → ∃ o', L'[n]? = some (some o')
variable {H H1 H2 : Hp} {al al1 al2 T T1 T2 : List Addr} {L L1 L2 : LH}
theorem Alv.mem {b : Addr} (h : Alv al L b) : b ∈ al := let ⟨_, _, e, _⟩ := h; List.mem_of_getElem? e
theorem Stp.ale (s : Stp K mg H al T L H1 al1 T1 L1) : ALe al al1 := by
  obtain ⟨be, e, _⟩ := s.ext
  rw [e]; exact ALe.app al be
theorem Stp.le (s : Stp K mg H al T L H1 al1 T1 L1) : Le (mask H (al ++ T)) (mask H1 (al1 ++ T1)) := fun b o e => by
  obtain ⟨n, e⟩ := of_mask e
  obtain ⟨be, e1, f1⟩ := s.ext
  obtain ⟨te, e2, f2⟩ := s.text
  have nal : b ∉ al := fun z => n (List.mem_append_left _ z)
  have nT : b ∉ T := fun z => n (List.mem_append_right _ z)
  refine mask_of (fun z => ?_) (s.frame b o e fun z => nal z.mem)
  rw [e1, e2] at z
  simp only [List.mem_append] at z
  rcases z with (z | z) | (z | z)
  · exact nal z
  · rw [f1 b z] at e; cases e
  · rw [f2 b z] at e; cases e
  · exact nT z
theorem Stp.rp (s : Stp K mg H al T L H1 al1 T1 L1) {v : V} {w : Va} (r : Rp K mg (mask H (al ++ T)) al v w) : Rp K mg (mask H1 (al1 ++ T1)) al1 v w := Rp.le s.le s.ale r
theorem Stp.rps (s : Stp K mg H al T L H1 al1 T1 L1) {v : List V} {w : List Va} (r : Rps K mg (mask H (al ++ T)) al v w) : Rps K mg (mask H1 (al1 ++ T1)) al1 v w := Rps.le s.le s.ale r
theorem Stp.refl (r : Rel K mg H al T L) : Stp K mg H al T L H al T L :=
  ⟨r, ⟨[], by simp, fun _ z => nomatch z⟩, ⟨[], by simp, fun _ z => nomatch z⟩, fun _ _ e _ => e, fun _ e => e, fun _ e => e, fun _ o e => ⟨o, e⟩⟩
theorem Stp.alvB (s : Stp K mg H al T L H1 al1 T1 L1) (hl : al.length = L.length) {b : Addr} (hb : H b ≠ none) (h : Alv al1 L1 b) : Alv al L b := by
  obtain ⟨n, o, e1, e2⟩ := h
  obtain ⟨be, e, f⟩ := s.ext
  by_cases q : n < al.length
  · have e3 : al[n]? = some b := by rw [e, List.getElem?_append_left q] at e1; exact e1
    have hn : n < L.length := by omega
    cases e4 : L[n] with
    | none =>
      have : L[n]? = some none := by rw [List.getElem?_eq_getElem hn, e4]
      rw [s.lck n this] at e2; cases e2
    | some o' => exact ⟨n, o', e3, by rw [List.getElem?_eq_getElem hn, e4]⟩
  · have : b ∈ be := by
      rw [e, List.getElem?_append_right (by omega)] at e1
      exact List.mem_of_getElem? e1
    exact absurd (f b this) hb
theorem Stp.trans (hl : al.length = L.length) (s : Stp K mg H al T L H1 al1 T1 L1) (t : Stp K mg H1 al1 T1 L1 H2 al2 T2 L2) : Stp K mg H al T L H2 al2 T2 L2 := by
  obtain ⟨be1, e1, f1⟩ := s.ext
  obtain ⟨be2, e2, f2⟩ := t.ext
  obtain ⟨te1, e3, f3⟩ := s.text
  obtain ⟨te2, e4, f4⟩ := t.text
  have back : ∀ b, H1 b = none → H b = none := fun b z => by
    cases e : H b with
    | none => rfl
    | some o => exact absurd z (s.stay b (by rw [e]; simp))
  refine ⟨t.rel, ⟨be1 ++ be2, by rw [e2, e1, List.append_assoc], fun b hb => ?_⟩, ⟨te2 ++ te1, by rw [e4, e3, List.append_assoc], fun b hb => ?_⟩, fun b o e n => ?_, fun b e => t.stay b (s.stay b e), fun n e => t.lck n (s.lck n e), fun n o e => ?_⟩
  · rcases List.mem_append.mp hb with z | z
    · exact f1 b z
    · exact back b (f2 b z)
  · rcases List.mem_append.mp hb with z | z
    · exact back b (f4 b z)
    · exact f3 b z
  · have h1 := s.frame b o e n
    exact t.frame b o h1 fun z => n (s.alvB hl (by rw [e]; simp) z)
  · obtain ⟨o', e'⟩ := s.alv n o e
    exact t.alv n o' e'
theorem Stp.drop {te : List Addr} (hte : ∀ b ∈ te, H b = none) (s : Stp K mg H al T L H1 al1 (te ++ T) L1) : Stp K mg H al T L H1 al1 T L1 := by
  have r := s.rel
  have m : Le (mask H1 (al1 ++ (te ++ T))) (mask H1 (al1 ++ T)) := fun b o e => by
    obtain ⟨n, e⟩ := of_mask e
    exact mask_of (fun z => n (by simp only [List.mem_append] at z ⊢; rcases z with z | z; exact .inl z; exact .inr (.inr z))) e
  refine ⟨⟨r.len, r.nd, fun a h z => r.dis a h (List.mem_append_right _ z), fun a h => r.trk a (h.imp id fun z => List.mem_append_right _ z), fun n o e => ?_⟩, s.ext, ⟨[], by simp, fun _ z => nomatch z⟩, s.frame, s.stay, s.lck, s.alv⟩
  obtain ⟨a, e1, q⟩ := r.cell n o e
  exact ⟨a, e1, ObR.le m (ALe.refl _) (fun _ e => e) q⟩
end

structure Conf (K : PySem.W.Frag) (mg : Str → Option Value) (σ : St) (H : Hp) (env : En) (L : LH) (al T : List Addr) : Prop where
  rel : Rel K mg H al T L
  len : σ.length = env.length
  slot : ∀ (i : Nat) (w : Va), env[i]? = some (some w) → ∃ v, σ[i]? = some (some v) ∧ Rp K mg (mask H (al ++ T)) al v w
theorem Conf.stp {K : PySem.W.Frag} {mg : Str → Option Value} {σ : St} {H H' : Hp} {env : En} {L L' : LH} {al al' T T' : List Addr} (c : Conf K mg σ H env L al T) (s : Stp K mg H al T L H' al' T' L') : Conf K mg σ H' env L' al' T' :=
  ⟨s.rel, c.len, fun i w e => let ⟨v, h1, h2⟩ := c.slot i w e; ⟨v, h1, s.rp h2⟩⟩
theorem Conf.put {K : PySem.W.Frag} {mg : Str → Option Value} {σ : St} {H : Hp} {env : En} {L : LH} {al T : List Addr} (c : Conf K mg σ H env L al T) {i : Nat} {v : V} {w : Va} (r : Rp K mg (mask H (al ++ T)) al v w) : Conf K mg (σ.set i (some v)) H (env.set i (some w)) L al T :=
  ⟨c.rel, by simpa using c.len, fun j u e => by
    by_cases h : i = j
    · subst h
      have hi : i < env.length := by
        by_cases q : i < env.length
        · exact q
        · rw [List.getElem?_eq_none (by simpa using q)] at e; cases e
      rw [List.getElem?_set_self hi] at e
      cases e
      exact ⟨v, List.getElem?_set_self (by rw [c.len]; exact hi), r⟩
    · rw [List.getElem?_set_ne h] at e ⊢
      exact c.slot j u e⟩
def Agr (sl : List Nat) (σ σ' : St) : Prop := σ'.length = σ.length ∧ ∀ j, j ∉ sl → σ'[j]? = σ[j]?
theorem Agr.refl (sl : List Nat) (σ : St) : Agr sl σ σ := ⟨rfl, fun _ _ => rfl⟩
theorem Agr.trans {sl sl' : List Nat} {a b c : St} (h : Agr sl a b) (k : Agr sl' b c) : Agr (sl ++ sl') a c := ⟨k.1.trans h.1, fun j hj => (k.2 j fun z => hj (List.mem_append_right _ z)).trans (h.2 j fun z => hj (List.mem_append_left _ z))⟩
theorem Agr.put (i : Nat) (v : Option V) (σ : St) : Agr [i] σ (σ.set i v) := ⟨by simp, fun j hj => by rw [List.getElem?_set_ne]; intro z; exact hj (by simp [z])⟩
end L2.HW
namespace L2.HW
open PySem PySem.Spec PyProof.Rows

def GPost (X : Cx) (Wx : WX) (σ : St) (H : Hp) (al T : List Addr) (L : LH) {α β : Type} (R : Hp → List Addr → β → α → Prop) (r : Res α) (Q : β → Hp → Prop) : Prop :=
  match r with
  | .ok a L' => ∀ b H' al', Stp X.K X.mg H al T L H' al' T L' → R (mask H' (al' ++ T)) al' b a → Q b H'
  | .exc c f L' => ∀ cls d H' al', Stp X.K X.mg H al T L H' al' T L' → ExR X.mg (mask H' (al' ++ T)) c f cls d → Wx cls d σ H'
  | .stuck => False
abbrev RV (X : Cx) : Hp → List Addr → V → Va → Prop := Rp X.K X.mg
abbrev RVs (X : Cx) : Hp → List Addr → List V → List Va → Prop := Rps X.K X.mg
def RB : Hp → List Addr → Bool → Bool → Prop := fun _ _ b a => b = a
def RO : Hp → List Addr → Option Int → Option Int → Prop := fun _ _ b a => b = a
def Rdg (X : Cx) (Wx : WX) {α β : Type} (R : Hp → List Addr → β → α → Prop) (f : En → LH → Res α) : St → Hp → (β → Hp → Prop) → Prop :=
  fun σ H Q => ∃ env L al T, Conf X.K X.mg σ H env L al T ∧ GPost X Wx σ H al T L R (f env L) Q
def SE (X : Cx) (Wx : WX) (e : Expr) (f : EF) : Prop := PE X e (Rdg X Wx (RV X) f)
def ST (X : Cx) (Wx : WX) (e : Expr) (f : En → LH → Res Bool) : Prop := PT X e (Rdg X Wx RB f)
def SW (X : Cx) (Wx : WX) (e : Expr) (f : En → LH → Res Bool) : Prop := PW X e (Rdg X Wx RB f)
def SA (X : Cx) (Wx : WX) (es : List Expr) (f : En → LH → Res (List Va)) : Prop := PA X es (Rdg X Wx (RVs X) f)
theorem PE.imp {X : Cx} {e : Expr} {t t' : TE} (h : PE X e t) (k : ∀ σ H Q, t' σ H Q → t σ H Q) : PE X e t' := ⟨fun pins s σ H Q I q => h.run pins s σ H Q I (k σ H Q q)⟩
theorem PT.imp {X : Cx} {e : Expr} {t t' : TT} (h : PT X e t) (k : ∀ σ H Q, t' σ H Q → t σ H Q) : PT X e t' := ⟨fun pins s σ H Q I q => h.run pins s σ H Q I (k σ H Q q)⟩
theorem PW.imp {X : Cx} {e : Expr} {t t' : TT} (h : PW X e t) (k : ∀ σ H Q, t' σ H Q → t σ H Q) : PW X e t' := ⟨fun w pins s σ H Q I q => h.run w pins s σ H Q I (k σ H Q q)⟩
theorem PA.imp {X : Cx} {e : List Expr} {t t' : TA} (h : PA X e t) (k : ∀ σ H Q, t' σ H Q → t σ H Q) : PA X e t' := ⟨fun pos pins s σ H Q I q => h.run pos pins s σ H Q I (k σ H Q q)⟩
theorem PS.imp {X : Cx} {e : Stmt} {t t' : TS} (h : PS X e t) (k : ∀ D σ H, t' D σ H → t D σ H) : PS X e t' := ⟨fun pins s σ H D I q => h.run pins s σ H D I (k D σ H q)⟩
theorem PSs.imp {X : Cx} {e : List Stmt} {t t' : TS} (h : PSs X e t) (k : ∀ D σ H, t' D σ H → t D σ H) : PSs X e t' := ⟨fun pins s σ H D I q => h.run pins s σ H D I (k D σ H q)⟩

section
variable {X : Cx} {Wx : WX} {σ : St} {H H1 : Hp} {al al1 T : List Addr} {L L1 : LH} {α β γ δ : Type} {R : Hp → List Addr → β → α → Prop} {S : Hp → List Addr → δ → γ → Prop}
theorem GPost.on (hl : al.length = L.length) (s : Stp X.K X.mg H al T L H1 al1 T L1) {r : Res α} {Q : β → Hp → Prop} (h : GPost X Wx σ H al T L R r Q) : GPost X Wx σ H1 al1 T L1 R r Q := by
  cases r with
  | ok a L' => exact fun b H' al' t q => h b H' al' (Stp.trans hl s t) q
  | exc c f L' => exact fun cls d H' al' t q => h cls d H' al' (Stp.trans hl s t) q
  | stuck => exact h
theorem gbind {f : Res α} {k : α → LH → Res γ} {Q : δ → Hp → Prop} (hl : al.length = L.length) (h : GPost X Wx σ H al T L S (f.bind k) Q) :
    GPost X Wx σ H al T L R f (fun b H1 => ∃ a L1 al1, Stp X.K X.mg H al T L H1 al1 T L1 ∧ R (mask H1 (al1 ++ T)) al1 b a ∧ GPost X Wx σ H1 al1 T L1 S (k a L1) Q) := by
  cases f with
  | ok a L' => exact fun b H' al' s q => ⟨a, L', al', s, q, GPost.on hl s h⟩
  | exc c f L' => exact h
  | stuck => exact h
theorem rbind {env : En} {f : En → LH → Res α} {k : α → LH → Res γ} {Q : δ → Hp → Prop} (c : Conf X.K X.mg σ H env L al T) (h : GPost X Wx σ H al T L S ((f env L).bind k) Q) :
    Rdg X Wx R f σ H (fun b H1 => ∃ a L1 al1, Conf X.K X.mg σ H1 env L1 al1 T ∧ Stp X.K X.mg H al T L H1 al1 T L1 ∧ R (mask H1 (al1 ++ T)) al1 b a ∧ GPost X Wx σ H1 al1 T L1 S (k a L1) Q) := by
  refine ⟨env, L, al, T, c, ?_⟩
  have g := gbind (R := R) c.rel.len h
  revert g
  generalize f env L = r
  intro g
  cases r with
  | ok a L' => exact fun b H' al' s q => let ⟨a, L1, al1, s1, q1, g1⟩ := g b H' al' s q; ⟨a, L1, al1, c.stp s1, s1, q1, g1⟩
  | exc c f L' => exact g
  | stuck => exact g
theorem gok (r : Rel X.K X.mg H al T L) {a : α} {b : β} {Q : β → Hp → Prop} (h : GPost X Wx σ H al T L R (.ok a L) Q) (q : R (mask H (al ++ T)) al b a) : Q b H := h b H al (Stp.refl r) q

def eVar (i : Nat) : EF := fun env L => match env[i]? with
  | some (some w) => .ok w L
  | _ => .stuck
theorem se_var {i : Nat} {x : Str} {pos : Pos} (hN : X.N[i]? = some x) (hv : Vis X.env.scope x) (hd : (x == ("__debug__" : Str)) = false := by decide) (hcd : (x == ("__classdict__" : Str)) = false := by decide) : SE X Wx (.Name x pos) (eVar i) := by
  refine PE.imp (pe_var hN hv hd hcd) ?_
  rintro σ H Q ⟨env, L, al, T, c, h⟩
  unfold eVar at h
  cases e : env[i]? with
  | none => rw [e] at h; exact h.elim
  | some o =>
    cases o with
    | none => rw [e] at h; exact h.elim
    | some w =>
      rw [e] at h
      obtain ⟨v, h1, h2⟩ := c.slot i w e
      exact ⟨v, h1, gok c.rel h h2⟩
def eC (x : PyData) : EF := fun _ L => .ok (.d x) L
theorem se_int {i : Int} {j : Nat} {pos : Pos} : SE X Wx (.Constant (.int i) j pos) (eC (.int i)) := PE.imp pe_int fun σ H Q ⟨env, L, al, T, c, h⟩ => gok c.rel h (.d (.int i))
theorem se_bl {b : Bool} {j : Nat} {pos : Pos} : SE X Wx (.Constant (.bool b) j pos) (eC (.bool b)) := PE.imp pe_bl fun σ H Q ⟨env, L, al, T, c, h⟩ => gok c.rel h (.d (.bl b))
theorem se_non {j : Nat} {pos : Pos} : SE X Wx (.Constant .none j pos) (eC .none) := PE.imp pe_non fun σ H Q ⟨env, L, al, T, c, h⟩ => gok c.rel h (.d .non)
theorem se_str {x : Str} {j : Nat} {pos : Pos} : SE X Wx (.Constant (.str x) j pos) (eC (.str x)) := PE.imp pe_str fun σ H Q ⟨env, L, al, T, c, h⟩ => gok c.rel h (.d (.str x))
abbrev Op2 := Va → Va → LH → Res Va
def Ok2 (X : Cx) (r : R2) (g : Op2) : Prop := ∀ (Wx : WX) (σ : St) (H : Hp) (al T : List Addr) (L : LH) (x y : V) (w u : Va) (Q : VK), Rel X.K X.mg H al T L → RV X (mask H (al ++ T)) al x w → RV X (mask H (al ++ T)) al y u →
  GPost X Wx σ H al T L (RV X) (g w u L) Q → r x y H Q
def eOp (g : Op2) (a b : EF) : EF := fun env L => (a env L).bind fun w L1 => (b env L1).bind fun u L2 => g w u L2
variable {a b c : Expr} {fa fb fc : EF} {pos : Pos}
theorem op_core {g : Op2} {r : R2} (o : Ok2 X r g) {σ : St} {H : Hp} {Q : VK} (h : Rdg X Wx (RV X) (eOp g fa fb) σ H Q) : tOp r (Rdg X Wx (RV X) fa) (Rdg X Wx (RV X) fb) σ H Q := by
  obtain ⟨env, L, al, T, c, h⟩ := h
  obtain ⟨env', L', al', T', c', h'⟩ := rbind (R := RV X) c h
  refine ⟨env', L', al', T', c', ?_⟩
  revert h'
  generalize fa env' L' = r1
  intro h'
  cases r1 with
  | stuck => exact h'
  | exc c f L1 => exact h'
  | ok w L1 =>
    intro v H1 al1 s1 q1
    obtain ⟨w2, L2, al2, c2, s2, q2, h2⟩ := h' v H1 al1 s1 q1
    obtain ⟨env3, L3, al3, T3, c3, h3⟩ := rbind (R := RV X) c2 h2
    refine ⟨env3, L3, al3, T3, c3, ?_⟩
    revert h3
    generalize fb env3 L3 = r2
    intro h3
    cases r2 with
    | stuck => exact h3
    | exc c f L4 => exact h3
    | ok u L4 =>
      intro v2 H4 al4 s4 q4
      obtain ⟨u5, L5, al5, c5, s5, q5, h5⟩ := h3 v2 H4 al4 s4 q4
      exact o Wx σ H4 al5 T L5 v v2 w2 u5 Q c5.rel (s5.rp q2) q5 h5
theorem se_op {op : Operator} {r : R2} {g : Op2} (ho : OpR X (binaryOp op) r) (o : Ok2 X r g) (ha : SE X Wx a fa) (hb : SE X Wx b fb) : SE X Wx (.BinOp a op b pos) (eOp g fa fb) :=
  PE.imp (pe_op ho ha hb) fun _ _ _ h => op_core o h
theorem se_cmp {op : CmpOp} {r : R2} {g : Op2} (ho : OpR X (compareOp op) r) (o : Ok2 X r g) (ha : SE X Wx a fa) (hb : SE X Wx b fb) (hm : behindInMarks op b = false) : SE X Wx (.Compare a [op] [b] pos) (eOp g fa fb) :=
  PE.imp (pe_cmpR ho ha hb hm) fun _ _ _ h => op_core o h
theorem Ok2.or {r r' : R2} {g : Op2} (h : ∀ (Wx : WX) (σ : St) (H : Hp) (al T : List Addr) (L : LH) (x y : V) (w u : Va) (Q : VK), Rel X.K X.mg H al T L → RV X (mask H (al ++ T)) al x w → RV X (mask H (al ++ T)) al y u →
  GPost X Wx σ H al T L (RV X) (g w u L) Q → r x y H Q ∨ r' x y H Q) : Ok2 X (fun x y H Q => r x y H Q ∨ r' x y H Q) g := h

def tVal (f : EF) : En → LH → Res Bool := fun env L => (f env L).bind fun w L1 => match w with
  | .d (.bool b) => .ok b L1
  | _ => .stuck
theorem val_core {f : EF} {σ : St} {H : Hp} {Q : Bool → Hp → Prop} (h : Rdg X Wx RB (tVal f) σ H Q) : tB (Rdg X Wx (RV X) f) σ H Q := by
  obtain ⟨env, L, al, T, c, h⟩ := h
  obtain ⟨env', L', al', T', c', h'⟩ := rbind (R := RV X) c h
  refine ⟨env', L', al', T', c', ?_⟩
  revert h'
  generalize f env' L' = r1
  intro h'
  cases r1 with
  | stuck => exact h'
  | exc c f L1 => exact h'
  | ok w L1 =>
    intro v H1 al1 s1 q1
    obtain ⟨w2, L2, al2, c2, s2, q2, h2⟩ := h' v H1 al1 s1 q1
    match w2, q2, h2 with
    | .d (.bool b), .d (.bl _), h2 => exact ⟨b, rfl, gok c2.rel h2 rfl⟩
    | .d .none, _, h2 => exact h2.elim
    | .d (.int _), _, h2 => exact h2.elim
    | .d (.str _), _, h2 => exact h2.elim
    | .d (.list _), _, h2 => exact h2.elim
    | .d (.tuple _), _, h2 => exact h2.elim
    | .d (.dict _), _, h2 => exact h2.elim
    | .loc _, _, h2 => exact h2.elim
    | .tup _, _, h2 => exact h2.elim
    | .dct _, _, h2 => exact h2.elim
    | .exc _ _, _, h2 => exact h2.elim
    | .scr _, _, h2 => exact h2.elim
theorem st_val (ha : SE X Wx a fa) (he : ∀ whole, isTrue a X.env whole = (do let v ← whole; standAt a.pos; holding [v] (truthy v)) := by intro _; rfl) : ST X Wx a (tVal fa) :=
  PT.imp (pt_val ha he) fun _ _ _ h => val_core h
theorem st_cmp {op : CmpOp} {r : R2} {g : Op2} (ho : OpR X (compareOp op) r) (o : Ok2 X r g) (ha : SE X Wx a fa) (hb : SE X Wx b fb) (hm : behindInMarks op b = false) : ST X Wx (.Compare a [op] [b] pos) (tVal (eOp g fa fb)) :=
  PT.imp (pt_cmpR ho ha hb hm) fun σ H Q h => by
    have := val_core h
    obtain ⟨env, L, al, T, c, k⟩ := this
    exact op_core o ⟨env, L, al, T, c, k⟩
variable {ta tb : En → LH → Res Bool} {rest : List Expr}
def tAndF (f g : En → LH → Res Bool) : En → LH → Res Bool := fun env L => (f env L).bind fun b L1 => if b then g env L1 else .ok false L1
def tOrF (f g : En → LH → Res Bool) : En → LH → Res Bool := fun env L => (f env L).bind fun b L1 => if b then .ok true L1 else g env L1
def tNotF (f : En → LH → Res Bool) : En → LH → Res Bool := fun env L => (f env L).bind fun b L1 => .ok (!b) L1
theorem two_core {f : En → LH → Res Bool} {k : Bool → LH → Res α} {σ : St} {H : Hp} {Q : β → Hp → Prop} {Q' : Bool → Hp → Prop} {env : En} {L : LH} {al T : List Addr} (c : Conf X.K X.mg σ H env L al T)
    (h : GPost X Wx σ H al T L R ((f env L).bind k) Q) (hk : ∀ b H1 L1 al1, Conf X.K X.mg σ H1 env L1 al1 T → GPost X Wx σ H1 al1 T L1 R (k b L1) Q → Q' b H1) : Rdg X Wx RB f σ H Q' := by
  refine ⟨env, L, al, T, c, ?_⟩
  have g := gbind (R := RB) c.rel.len h
  revert g
  generalize f env L = r
  intro g
  cases r with
  | stuck => exact g
  | exc c f L1 => exact g
  | ok b L1 =>
    intro b' H1 al1 s1 q1
    obtain ⟨a, L2, al2, s2, q2, g2⟩ := g b' H1 al1 s1 q1
    cases (show b' = a from q2)
    exact hk b' H1 L2 al2 (c.stp s2) g2
theorem sw_and1 (ha : ST X Wx a ta) : SW X Wx (.BoolOp .And [a] pos) ta := pw_and1 ha
theorem sw_or1 (ha : ST X Wx a ta) : SW X Wx (.BoolOp .Or [a] pos) ta := pw_or1 ha
theorem sw_and (ha : ST X Wx a ta) (hb : SW X Wx (.BoolOp .And (b :: rest) pos) tb) : SW X Wx (.BoolOp .And (a :: b :: rest) pos) (tAndF ta tb) :=
  PW.imp (pw_and ha hb) fun σ H Q ⟨env, L, al, T, c, h⟩ => two_core c h fun b H1 L1 al1 c1 g => by
    cases b with
    | true => exact ⟨env, L1, al1, T, c1, g⟩
    | false => exact gok c1.rel g rfl
theorem sw_or (ha : ST X Wx a ta) (hb : SW X Wx (.BoolOp .Or (b :: rest) pos) tb) : SW X Wx (.BoolOp .Or (a :: b :: rest) pos) (tOrF ta tb) :=
  PW.imp (pw_or ha hb) fun σ H Q ⟨env, L, al, T, c, h⟩ => two_core c h fun b H1 L1 al1 c1 g => by
    cases b with
    | false => exact ⟨env, L1, al1, T, c1, g⟩
    | true => exact gok c1.rel g rfl
theorem st_w (h : SW X Wx a ta) : ST X Wx a ta := PW.pt h
theorem st_not (ha : ST X Wx a ta) : ST X Wx (.UnaryOp .Not a pos) (tNotF ta) :=
  PT.imp (pt_not ha) fun σ H Q ⟨env, L, al, T, c, h⟩ => two_core c h fun b H1 L1 al1 c1 g => gok c1.rel g rfl
def eIf (t : En → LH → Res Bool) (f g : EF) : EF := fun env L => (t env L).bind fun b L1 => if b then f env L1 else g env L1
def eAnd (f g : EF) : EF := fun env L => (tVal f env L).bind fun b L1 => if b then g env L1 else .ok (.d (.bool false)) L1
def eOr (f g : EF) : EF := fun env L => (tVal f env L).bind fun b L1 => if b then .ok (.d (.bool true)) L1 else g env L1
def eNot (f : EF) : EF := fun env L => (tVal f env L).bind fun b L1 => .ok (.d (.bool (!b))) L1
theorem se_one {op : BoolOp} (h : SE X Wx a fa) : SE X Wx (.BoolOp op [a] pos) fa := pe_one h
theorem valc {f : EF} {k : Bool → LH → Res α} {σ : St} {H : Hp} {Q : β → Hp → Prop} {Q' : Bool → Hp → Prop} {env : En} {L : LH} {al T : List Addr} (c : Conf X.K X.mg σ H env L al T)
    (h : GPost X Wx σ H al T L R ((tVal f env L).bind k) Q) (hk : ∀ b H1 L1 al1, Conf X.K X.mg σ H1 env L1 al1 T → GPost X Wx σ H1 al1 T L1 R (k b L1) Q → Q' b H1) : tB (Rdg X Wx (RV X) f) σ H Q' := val_core (two_core c h hk)
theorem se_and (ha : SE X Wx a fa) (hb : SE X Wx (.BoolOp .And (b :: rest) pos) fb) : SE X Wx (.BoolOp .And (a :: b :: rest) pos) (eAnd fa fb) :=
  PE.imp (pe_and ha hb) fun σ H Q ⟨env, L, al, T, c, h⟩ => by
    obtain ⟨env', L', al', T', c', h'⟩ := valc (Q' := fun b H1 => if b = true then Rdg X Wx (RV X) fb σ H1 Q else Q (.bl false) H1) c h fun b H1 L1 al1 c1 g => by
      cases b with
      | true => exact ⟨env, L1, al1, T, c1, g⟩
      | false => exact gok c1.rel g (.d (.bl false))
    exact ⟨env', L', al', T', c', h'⟩
theorem se_not (ha : SE X Wx a fa) : SE X Wx (.UnaryOp .Not a pos) (eNot fa) :=
  PE.imp (pe_not ha) fun σ H Q ⟨env, L, al, T, c, h⟩ => by
    obtain ⟨env', L', al', T', c', h'⟩ := valc (Q' := fun b H1 => Q (.bl (!b)) H1) c h fun b H1 L1 al1 c1 g => gok c1.rel g (.d (.bl (!b)))
    exact ⟨env', L', al', T', c', h'⟩
def aNil : En → LH → Res (List Va) := fun _ L => .ok [] L
def aCons (f : EF) (g : En → LH → Res (List Va)) : En → LH → Res (List Va) := fun env L => (f env L).bind fun w L1 => (g env L1).bind fun ws L2 => .ok (w :: ws) L2
theorem sa_nil : SA X Wx [] aNil := PA.imp pa_nil fun σ H Q ⟨env, L, al, T, c, h⟩ => gok c.rel h .nil
theorem sa_cons {e : Expr} {es : List Expr} {fe : EF} {fs : En → LH → Res (List Va)} (ha : SE X Wx e fe) (hr : SA X Wx es fs) (hs : starEach (e :: es) X.env = (false, eval e X.env) :: starEach es X.env := by rfl) : SA X Wx (e :: es) (aCons fe fs) := by
  refine PA.imp (pa_cons ha hr hs) ?_
  rintro σ H Q ⟨env, L, al, T, c, h⟩
  obtain ⟨env', L', al', T', c', h'⟩ := rbind (R := RV X) c h
  refine ⟨env', L', al', T', c', ?_⟩
  revert h'
  generalize fe env' L' = r1
  intro h'
  cases r1 with
  | stuck => exact h'
  | exc c f L1 => exact h'
  | ok w L1 =>
    intro v H1 al1 s1 q1
    obtain ⟨w2, L2, al2, c2, s2, q2, h2⟩ := h' v H1 al1 s1 q1
    obtain ⟨env3, L3, al3, T3, c3, h3⟩ := rbind (R := RVs X) c2 h2
    refine ⟨env3, L3, al3, T3, c3, ?_⟩
    revert h3
    generalize fs env3 L3 = r2
    intro h3
    cases r2 with
    | stuck => exact h3
    | exc c f L4 => exact h3
    | ok u L4 =>
      intro v2 H4 al4 s4 q4
      obtain ⟨u5, L5, al5, c5, s5, q5, h5⟩ := h3 v2 H4 al4 s4 q4
      exact gok c5.rel h5 (.cons (s5.rp q2) q5)
end
end L2.HW
namespace L2.HW
open PySem PySem.Spec PyProof.Rows
theorem rseq {X : Cx} {Wx : WX} {σ : St} {H : Hp} {al T : List Addr} {L : LH} {α β γ δ : Type} {R : Hp → List Addr → β → α → Prop} {S : Hp → List Addr → δ → γ → Prop} {env : En} {f : En → LH → Res α} {k : α → LH → Res γ} {Q : δ → Hp → Prop} {Q' : β → Hp → Prop}
    (c : Conf X.K X.mg σ H env L al T) (h : GPost X Wx σ H al T L S ((f env L).bind k) Q)
    (hk : ∀ b H1 a L1 al1, Conf X.K X.mg σ H1 env L1 al1 T → Stp X.K X.mg H al T L H1 al1 T L1 → R (mask H1 (al1 ++ T)) al1 b a → GPost X Wx σ H1 al1 T L1 S (k a L1) Q → Q' b H1) : Rdg X Wx R f σ H Q' := by
  refine ⟨env, L, al, T, c, ?_⟩
  have g := gbind (R := R) c.rel.len h
  revert g
  generalize f env L = r
  intro g
  cases r with
  | stuck => exact g
  | exc c f L1 => exact g
  | ok b L1 =>
    intro b' H1 al1 s1 q1
    obtain ⟨a, L2, al2, s2, q2, g2⟩ := g b' H1 al1 s1 q1
    exact hk b' H1 a L2 al2 (c.stp s2) s2 q2 g2
section
variable {K : PySem.W.Frag} {mg : Str → Option Value} {H : Hp} {al T : List Addr} {L : LH} {p : Addr} {o : HO}
theorem mask_eq {H : Hp} {P P' : List Addr} (h : ∀ b, b ∈ P ↔ b ∈ P') : mask H P = mask H P' := by
  funext b
  unfold mask
  by_cases q : b ∈ P
  · rw [if_pos q, if_pos ((h b).mp q)]
  · rw [if_neg q, if_neg fun z => q ((h b).mpr z)]
theorem Rel.fresh (r : Rel K mg H al T L) (hp : H p = none) : p ∉ al ∧ p ∉ T := ⟨fun z => r.trk p (.inl z) hp, fun z => r.trk p (.inr z) hp⟩
theorem upd_of {b : Addr} {u : HO} (hp : H p = none) (e : H b = some u) : upd H p o b = some u := by
  rw [upd_ne (ne_of_none e hp)]; exact e
theorem mask_upd (hp : H p = none) (P : List Addr) : Le (mask H P) (mask (upd H p o) P) := fun b u e => by
  obtain ⟨n, e⟩ := of_mask e
  exact mask_of n (upd_of hp e)
theorem Rel.alloc (r : Rel K mg H al T L) (hp : H p = none) : Stp K mg H al T L (upd H p o) al T L := by
  refine ⟨⟨r.len, r.nd, r.dis, fun a h => ?_, fun n ob e => ?_⟩, ⟨[], by simp, fun _ z => nomatch z⟩, ⟨[], by simp, fun _ z => nomatch z⟩, fun b u e _ => upd_of hp e, fun b e => ?_, fun _ e => e, fun _ ob e => ⟨ob, e⟩⟩
  · have := r.trk a h
    intro z
    apply this
    cases q : H a with
    | none => rfl
    | some u => rw [upd_of hp q] at z; cases z
  · obtain ⟨a, e1, q⟩ := r.cell n ob e
    exact ⟨a, e1, ObR.le (mask_upd hp _) (ALe.refl _) (fun _ z => upd_of hp z) q⟩
  · intro z
    apply e
    cases q : H b with
    | none => rfl
    | some u => rw [upd_of hp q] at z; cases z
theorem Rel.allocT (r : Rel K mg H al T L) (hp : H p = none) : Stp K mg H al T L (upd H p o) al (p :: T) L := by
  have s := r.alloc (o := o) hp
  obtain ⟨n1, n2⟩ := r.fresh hp
  have m : Le (mask H (al ++ T)) (mask (upd H p o) (al ++ (p :: T))) := fun b u e => by
    obtain ⟨n, e⟩ := of_mask e
    refine mask_of (fun z => ?_) (upd_of hp e)
    simp only [List.mem_append, List.mem_cons] at z n
    rcases z with z | z | z
    · exact n (.inl z)
    · rw [z, hp] at e; cases e
    · exact n (.inr z)
  refine ⟨⟨r.len, r.nd, fun a h z => ?_, fun a h => ?_, fun n ob e => ?_⟩, s.ext, ⟨[p], rfl, fun b z => ?_⟩, s.frame, s.stay, s.lck, s.alv⟩
  · rcases List.mem_cons.mp z with z | z
    · exact n1 (z ▸ h)
    · exact r.dis a h z
  · rcases h with h | h
    · exact s.rel.trk a (.inl h)
    · rcases List.mem_cons.mp h with z | z
      · rw [z, upd_same]; simp
      · exact s.rel.trk a (.inr z)
  · obtain ⟨a, e1, q⟩ := r.cell n ob e
    exact ⟨a, e1, ObR.le m (ALe.refl _) (fun _ z => upd_of hp z) q⟩
  · have : b = p := by simpa using z
    rw [this]; exact hp
theorem Stp.cell {H' : Hp} {al' : List Addr} {L' : LH} {a : Addr} {ob : Ob} (r0 : Rel K mg H al T L) (ha : H a = none) (s : Stp K mg H al T L H' al' (a :: T) L') (q : ObR K mg (mask H' (al' ++ (a :: T))) al' H' a ob) :
    Stp K mg H al T L H' (al' ++ [a]) T (L' ++ [some ob]) := by
  have r := s.rel
  have m : mask H' (al' ++ (a :: T)) = mask H' ((al' ++ [a]) ++ T) := mask_eq fun b => by simp [or_assoc]
  have na : a ∉ al' := fun z => r.dis a z List.mem_cons_self
  obtain ⟨be, e1, f1⟩ := s.ext
  have hL : L.length ≤ L'.length ∨ al.length ≠ L.length := by
    have := r.len
    rw [e1, List.length_append] at this
    by_cases q : al.length = L.length
    · left; omega
    · exact .inr q
  have keep : ∀ (n : Nat) (c : Option Ob), L'[n]? = some c → (L' ++ [some ob])[n]? = some c := fun n c e => by
    obtain ⟨h, _⟩ := List.getElem?_eq_some_iff.mp e
    rw [List.getElem?_append_left h]; exact e
  refine ⟨⟨by simp [r.len], ?_, fun b h z => ?_, fun b h => ?_, fun n c e => ?_⟩, ⟨be ++ [a], by rw [e1, List.append_assoc], fun b h => ?_⟩, ⟨[], by simp, fun _ z => nomatch z⟩, s.frame, s.stay, fun n e => keep _ _ (s.lck n e), fun n c e => ?_⟩
  · rw [List.nodup_append]
    exact ⟨r.nd, by simp, fun x hx y hy => by have : y = a := by simpa using hy
                                              rw [this]; rintro rfl; exact na hx⟩
  · rcases List.mem_append.mp h with h | h
    · exact r.dis b h (List.mem_cons_of_mem _ z)
    · have : b = a := by simpa using h
      subst this
      exact (r0.fresh ha).2 z
  · rcases h with h | h
    · rcases List.mem_append.mp h with h | h
      · exact r.trk b (.inl h)
      · have : b = a := by simpa using h
        rw [this]; exact r.trk a (.inr List.mem_cons_self)
    · exact r.trk b (.inr (List.mem_cons_of_mem _ h))
  · rw [← m]
    by_cases hn : n < L'.length
    · rw [List.getElem?_append_left hn] at e
      obtain ⟨b, e2, q2⟩ := r.cell n c e
      exact ⟨b, by rw [List.getElem?_append_left (by rw [r.len]; exact hn)]; exact e2, ObR.le (Le.refl _) (ALe.app _ _) (fun _ z => z) q2⟩
    · rw [List.getElem?_append_right (by omega)] at e
      have h0 : n - L'.length = 0 := by
        by_cases z : n - L'.length = 0
        · exact z
        · rw [List.getElem?_eq_none (by simp; omega)] at e; cases e
      rw [h0] at e
      simp at e
      subst e
      refine ⟨a, by rw [List.getElem?_append_right (by rw [r.len]; omega), r.len, h0]; rfl, ObR.le (Le.refl _) (ALe.app _ _) (fun _ z => z) q⟩
  · rcases List.mem_append.mp h with h | h
    · exact f1 b h
    · have : b = a := by simpa using h
      rw [this]; exact ha
  · obtain ⟨c', e'⟩ := s.alv n c e
    exact ⟨c', keep _ _ e'⟩
end
end L2.HW
namespace L2.HW
open PySem PySem.Spec PyProof.Rows

def datas : List Va → Option (List PyData)
  | [] => some []
  | .d x :: r => (datas r).map (x :: ·)
  | _ :: _ => none
@[simp] theorem datas_nil : datas [] = some [] := (rfl)
@[simp] theorem datas_cons (x : PyData) (r : List Va) : datas (.d x :: r) = (datas r).map (x :: ·) := (rfl)
@[simp] theorem datas_map (xs : List PyData) : datas (xs.map Va.d) = some xs := by
  induction xs with
  | nil => rfl
  | cons x r ih => rw [List.map_cons, datas_cons, ih]; rfl
@[simp] theorem datas_app (xs : List PyData) (ws : List Va) : datas (xs.map Va.d ++ ws) = (datas ws).map (xs ++ ·) := by
  induction xs with
  | nil => simp
  | cons x r ih => rw [List.map_cons, List.cons_append, datas_cons, ih]; cases datas ws <;> simp
theorem datas_eq : ∀ {ws : List Va} {xs : List PyData}, datas ws = some xs → ws = xs.map Va.d
  | [], xs, h => by cases h; rfl
  | .d x :: r, xs, h => by
    rw [datas_cons] at h
    cases e : datas r with
    | none => rw [e] at h; cases h
    | some ys => rw [e] at h; cases h; rw [datas_eq e]; rfl
  | .loc _ :: _, _, h => by cases h
  | .tup _ :: _, _, h => by cases h
  | .dct _ :: _, _, h => by cases h
  | .exc _ _ :: _, _, h => by cases h
  | .scr _ :: _, _, h => by cases h
def Va.data (L : LH) : Va → Option PyData
  | .d x => some x
  | .loc n => match L[n]? with
    | some (some (.lst ws)) => (datas ws).map .list
    | _ => none
  | _ => none
@[simp] theorem data_d (L : LH) (x : PyData) : (Va.d x).data L = some x := (rfl)
def Va.seq (L : LH) : Va → Option (List Va)
  | .d (.list ds) => some (ds.map .d)
  | .d (.tuple ds) => some (ds.map .d)
  | .tup ws => some ws
  | .loc n => match L[n]? with
    | some (some (.lst ws)) => some ws
    | _ => none
  | .scr ns => some (ns.map fun i => .d (.int i))
  | _ => none
@[simp] theorem seq_list (L : LH) (ds : List PyData) : (Va.d (.list ds)).seq L = some (ds.map .d) := (rfl)
@[simp] theorem seq_tuple (L : LH) (ds : List PyData) : (Va.d (.tuple ds)).seq L = some (ds.map .d) := (rfl)
@[simp] theorem seq_tup (L : LH) (ws : List Va) : (Va.tup ws).seq L = some ws := (rfl)
section
variable {K : PySem.W.Frag} {mg : Str → Option Value} {H M : Hp} {al T : List Addr} {L : LH}
theorem dq_all : ∀ {vs : List V} {xs : List PyData}, Rps K mg M al vs (xs.map Va.d) → DqAll M vs xs
  | _, [], .nil => .nil
  | _, _ :: _, .cons (.d q) r => .cons q (dq_all r)
theorem all_dq : ∀ {vs : List V} {xs : List PyData}, DqAll M vs xs → Rps K mg M al vs (xs.map Va.d)
  | _, _, .nil => .nil
  | _, _, .cons q r => .cons (.d q) (all_dq r)
theorem loc_lst (r : Rel K mg H al T L) {n : Nat} {v : V} {ws : List Va} (q : Rp K mg (mask H (al ++ T)) al v (.loc n)) (e : L[n]? = some (some (.lst ws))) : ∃ a vs, v = .ref a ∧ al[n]? = some a ∧ H a = some (.lst vs) ∧ Rps K mg (mask H (al ++ T)) al vs ws := by
  cases q with
  | loc e1 =>
    obtain ⟨a, e2, vs, e3, e4⟩ := r.cell n _ e
    rw [e1] at e2; cases e2
    exact ⟨_, vs, rfl, e1, e3, e4⟩
theorem data_ok (r : Rel K mg H al T L) {v : V} {w : Va} {x : PyData} (q : Rp K mg (mask H (al ++ T)) al v w) (e : w.data L = some x) : Dq H v x := by
  cases w with
  | d y => cases e; cases q with | d q => exact Dq.le (mask_le _ _) q
  | loc n =>
    simp only [Va.data] at e
    split at e
    · rename_i ws e1
      obtain ⟨a, vs, rfl, _, e3, e4⟩ := loc_lst r q e1
      cases e5 : datas ws with
      | none => rw [e5] at e; cases e
      | some xs =>
        rw [e5] at e
        cases e
        rw [datas_eq e5] at e4
        exact .lst e3 (DqAll.le (mask_le _ _) (dq_all e4))
    · cases e
  | tup _ => cases e
  | dct _ => cases e
  | exc _ _ => cases e
  | scr _ => cases e
theorem seq_ok (r : Rel K mg H al T L) {v : V} {w : Va} {ws : List Va} (q : Rp K mg (mask H (al ++ T)) al v w) (e : w.seq L = some ws) : ∃ a vs, v = .ref a ∧ (SqL K H a vs ∨ SqT K H a vs) ∧ Rps K mg (mask H (al ++ T)) al vs ws := by
  cases w with
  | d y =>
    cases q with
    | d q =>
      cases q with
      | lst e1 e2 => cases e; exact ⟨_, _, rfl, .inl (SqL.of (of_mask e1).2), all_dq e2⟩
      | tup e1 e2 => cases e; exact ⟨_, _, rfl, .inr (SqT.of (of_mask e1).2), all_dq e2⟩
      | non => cases e
      | bl _ => cases e
      | int _ => cases e
      | str _ => cases e
  | loc n =>
    simp only [Va.seq] at e
    split at e
    · rename_i us e1
      cases e
      obtain ⟨a, vs, rfl, _, e3, e4⟩ := loc_lst r q e1
      exact ⟨a, vs, rfl, .inl (SqL.of e3), e4⟩
    · cases e
  | tup us =>
    cases e
    cases q with
    | tup e1 e2 => exact ⟨_, _, rfl, .inr (SqT.of (of_mask e1).2), e2⟩
  | dct _ => cases e
  | exc _ _ => cases e
  | scr ns =>
    cases e
    cases q with
    | scr e1 =>
      refine ⟨_, _, rfl, .inl (SqL.le (mask_le _ _) e1), ?_⟩
      have go : ∀ ns : List Int, Rps K mg (mask H (al ++ T)) al (ns.map V.int) (ns.map fun i => Va.d (.int i)) := fun ns => by
        induction ns with
        | nil => exact .nil
        | cons n r ih => exact .cons (.d (.int n)) ih
      exact go ns
end

def FPost (X : Cx) (Wx : WX) (σ : St) (H : Hp) (al T : List Addr) (L : LH) (r : Res Ob) (Q : VK) : Prop :=
  match r with
  | .ok o L' => ∀ a H' al', H a = none → Stp X.K X.mg H al T L H' al' (a :: T) L' → ObR X.K X.mg (mask H' (al' ++ (a :: T))) al' H' a o → Q (.ref a) H'
  | .exc c f L' => ∀ cls d H' al', Stp X.K X.mg H al T L H' al' T L' → ExR X.mg (mask H' (al' ++ T)) c f cls d → Wx cls d σ H'
  | .stuck => False
def FRdg (X : Cx) (Wx : WX) (f : En → LH → Res Ob) : TE := fun σ H Q => ∃ env L al T, Conf X.K X.mg σ H env L al T ∧ FPost X Wx σ H al T L (f env L) Q
def SF (X : Cx) (Wx : WX) (e : Expr) (f : En → LH → Res Ob) : Prop := PE X e (FRdg X Wx f)
def Ob.va : Ob → Option Va
  | .lst ws => (datas ws).map fun xs => .d (.list xs)
  | .di kvs => (datas (kvs.map (·.2))).map fun xs => .dct ((kvs.map (·.1)).zip xs)
  | _ => none
@[simp] theorem va_lst (xs : List PyData) : (Ob.lst (xs.map Va.d)).va = some (.d (.list xs)) := by simp [Ob.va]
def eDat (g : En → LH → Res Ob) : EF := fun env L => (g env L).bind fun o L1 => match o.va with
  | some w => .ok w L1
  | none => .stuck
def eNew (g : En → LH → Res Ob) : EF := fun env L => (g env L).bind fun o L1 => .ok (.loc L1.length) (L1 ++ [some o])
theorem va_ok {K : PySem.W.Frag} {mg : Str → Option Value} {H : Hp} {al P : List Addr} {a : Addr} (na : a ∉ P) {o : Ob} {w : Va} {M : Hp} (hM : Le M (mask H P)) (q : ObR K mg M al H a o) (e : o.va = some w) : Rp K mg (mask H P) al (.ref a) w := by
  cases o with
  | lst ws =>
    obtain ⟨vs, h1, h2⟩ := q
    simp only [Ob.va] at e
    cases e5 : datas ws with
    | none => rw [e5] at e; cases e
    | some xs =>
      rw [e5] at e
      cases e
      rw [datas_eq e5] at h2
      exact .d (.lst (mask_of na h1) (DqAll.le hM (dq_all h2)))
  | di kvs =>
    obtain ⟨ks, h1, h2⟩ := q
    simp only [Ob.va] at e
    cases e5 : datas (kvs.map (·.2)) with
    | none => rw [e5] at e; cases e
    | some xs =>
      rw [e5] at e
      cases e
      refine .dct (mask_of na h1) ?_
      have go : ∀ {ks : List (Key × V)} {kvs : List (Int × Va)} {xs : List PyData}, KRp K mg M al ks kvs → datas (kvs.map (·.2)) = some xs → KDp (mask H P) ks ((kvs.map (·.1)).zip xs) := by
        intro ks kvs xs h
        induction h generalizing xs with
        | nil => intro _; exact .nil
        | @cons p q ps qs h1 _ ih =>
          intro e
          obtain ⟨k, w⟩ := q
          obtain ⟨pk, pv⟩ := p
          have e0 := datas_eq e
          match xs, e0, e with
          | x :: xs, e0, e =>
            simp only [List.map_cons, List.cons.injEq] at e0
            obtain ⟨e1, e2⟩ := e0
            obtain ⟨h3, h4⟩ := h1
            have h4' : Rp K mg M al pv w := h4
            rw [show w = Va.d x from e1] at h4'
            cases h4' with
            | d q => exact .cons ⟨h3, Dq.le hM q⟩ (ih (by rw [e2]; simp))
      exact go h2 e5
  | dt _ => cases e
  | ins _ _ => cases e
theorem se_dat {X : Cx} {Wx : WX} {e : Expr} {g : En → LH → Res Ob} (h : SF X Wx e g) : SE X Wx e (eDat g) := by
  refine PE.imp h ?_
  rintro σ H Q ⟨env, L, al, T, c, q⟩
  refine ⟨env, L, al, T, c, ?_⟩
  unfold eDat at q
  revert q
  generalize g env L = r
  intro q
  cases r with
  | stuck => exact q
  | exc c f L1 => exact q
  | ok o L1 =>
    intro a H' al' ha s ob
    simp only [Res.bind_ok] at q
    cases e : o.va with
    | none => rw [e] at q; exact q.elim
    | some w =>
      rw [e] at q
      have r := s.rel
      have na : a ∉ al' ++ T := fun z => by
        rcases List.mem_append.mp z with z | z
        · exact r.dis a z List.mem_cons_self
        · exact (c.rel.fresh ha).2 z
      have m : Le (mask H' (al' ++ (a :: T))) (mask H' (al' ++ T)) := fun b u e => by
        obtain ⟨n, e⟩ := of_mask e
        exact mask_of (fun z => n (by simp only [List.mem_append, List.mem_cons] at z ⊢; exact z.imp id .inr)) e
      exact q _ H' al' (Stp.drop (te := [a]) (fun b hb => by have : b = a := by simpa using hb
                                                             rw [this]; exact ha) s) (va_ok na m ob e)
theorem se_new {X : Cx} {Wx : WX} {e : Expr} {g : En → LH → Res Ob} (h : SF X Wx e g) : SE X Wx e (eNew g) := by
  refine PE.imp h ?_
  rintro σ H Q ⟨env, L, al, T, c, q⟩
  refine ⟨env, L, al, T, c, ?_⟩
  unfold eNew at q
  revert q
  generalize g env L = r
  intro q
  cases r with
  | stuck => exact q
  | exc c f L1 => exact q
  | ok o L1 =>
    intro a H' al' ha s ob
    refine q _ H' (al' ++ [a]) (Stp.cell c.rel ha s ob) (.loc ?_)
    rw [← s.rel.len, List.getElem?_append_right (Nat.le_refl _), Nat.sub_self]
    rfl
theorem gnew {X : Cx} {Wx : WX} {σ : St} {H : Hp} {al T : List Addr} {L : LH} {w : Va} {Q : VK} {o : HO} (r : Rel X.K X.mg H al T L) (h : GPost X Wx σ H al T L (RV X) (.ok w L) Q)
    (k : ∀ p, H p = none → (upd H p o) p = some o → Le (mask H (al ++ T)) (mask (upd H p o) (al ++ T)) → mask (upd H p o) (al ++ T) p = some o → RV X (mask (upd H p o) (al ++ T)) al (.ref p) w) : ∀ p, H p = none → Q (.ref p) (upd H p o) := fun p hp => by
  obtain ⟨n1, n2⟩ := r.fresh hp
  exact h _ _ al (r.alloc hp) (k p hp upd_same (mask_upd hp _) (mask_of (by simp [n1, n2]) upd_same))
theorem fnew {X : Cx} {Wx : WX} {σ : St} {H : Hp} {al T : List Addr} {L : LH} {ob : Ob} {Q : VK} {o : HO} (r : Rel X.K X.mg H al T L) (h : FPost X Wx σ H al T L (.ok ob L) Q)
    (k : ∀ p, H p = none → (upd H p o) p = some o → Le (mask H (al ++ T)) (mask (upd H p o) (al ++ (p :: T))) → ObR X.K X.mg (mask (upd H p o) (al ++ (p :: T))) al (upd H p o) p ob) : ∀ p, H p = none → Q (.ref p) (upd H p o) := fun p hp => by
  have s := r.allocT (o := o) hp
  exact h p _ al hp s (k p hp upd_same s.le)
end L2.HW
namespace L2.HW
open PySem PySem.Spec PyProof.Rows
section
variable {X : Cx}
def Va.items (L : LH) : Va → Option (List Va)
  | .d (.list ds) => some (ds.map .d)
  | .loc n => match L[n]? with
    | some (some (.lst ws)) => some ws
    | _ => none
  | _ => none
@[simp] theorem items_list (L : LH) (ds : List PyData) : (Va.d (.list ds)).items L = some (ds.map .d) := (rfl)
theorem items_ok {K : PySem.W.Frag} {mg : Str → Option Value} {H : Hp} {al T : List Addr} {L : LH} (r : Rel K mg H al T L) {v : V} {w : Va} {ws : List Va} (q : Rp K mg (mask H (al ++ T)) al v w) (e : w.items L = some ws) :
    ∃ a vs, v = .ref a ∧ H a = some (.lst vs) ∧ Rps K mg (mask H (al ++ T)) al vs ws := by
  cases w with
  | d y =>
    cases q with
    | d q =>
      cases q with
      | lst e1 e2 => cases e; exact ⟨_, _, rfl, (of_mask e1).2, all_dq e2⟩
      | tup e1 e2 => cases e
      | non => cases e
      | bl _ => cases e
      | int _ => cases e
      | str _ => cases e
  | loc n =>
    simp only [Va.items] at e
    split at e
    · rename_i us e1
      cases e
      obtain ⟨a, vs, rfl, _, e3, e4⟩ := loc_lst r q e1
      exact ⟨a, vs, rfl, e3, e4⟩
    · cases e
  | tup us => cases e
  | dct _ => cases e
  | exc _ _ => cases e
  | scr ns => cases e
def opAdd : Op2 := fun w u L => match w, u with
  | .d (.int i), .d (.int j) => .ok (.d (.int (i + j))) L
  | .d (.str a), .d (.str b) => if a.length + b.length ≤ sizeLine then .ok (.d (.str (a ++ b))) L else .stuck
  | .d (.tuple xs), .d (.tuple ys) => if xs.length + ys.length ≤ sizeLine then .ok (.d (.tuple (xs ++ ys))) L else .stuck
  | w, u => match w.items L, u.items L with
    | some ws, some us => if ws.length + us.length ≤ sizeLine then match datas ws, datas us with
      | some xs, some ys => .ok (.d (.list (xs ++ ys))) L
      | _, _ => .stuck
      else .stuck
    | _, _ => .stuck
theorem dq_app {M : Hp} : ∀ {vs us : List V} {xs ys : List PyData}, DqAll M vs xs → DqAll M us ys → DqAll M (vs ++ us) (xs ++ ys)
  | _, _, _, _, .nil, h => h
  | _, _, _, _, .cons a b, h => .cons a (dq_app b h)
theorem dq_int {M : Hp} {v : V} {i : Int} (h : Dq M v (.int i)) : v = .int i := by cases h; rfl
theorem dq_str {M : Hp} {v : V} {i : Str} (h : Dq M v (.str i)) : v = .str i := by cases h; rfl
theorem dq_bl {M : Hp} {v : V} {i : Bool} (h : Dq M v (.bool i)) : v = .bl i := by cases h; rfl
theorem dq_non {M : Hp} {v : V} (h : Dq M v .none) : v = .non := by cases h; rfl
theorem dq_tup {M : Hp} {v : V} {xs : List PyData} (h : Dq M v (.tuple xs)) : ∃ a vs, v = .ref a ∧ M a = some (.tup vs) ∧ DqAll M vs xs := by cases h with | tup e q => exact ⟨_, _, rfl, e, q⟩
theorem dq_lst {M : Hp} {v : V} {xs : List PyData} (h : Dq M v (.list xs)) : ∃ a vs, v = .ref a ∧ M a = some (.lst vs) ∧ DqAll M vs xs := by cases h with | lst e q => exact ⟨_, _, rfl, e, q⟩
theorem rp_d {K : PySem.W.Frag} {mg : Str → Option Value} {M : Hp} {al : List Addr} {v : V} {x : PyData} (h : Rp K mg M al v (.d x)) : Dq M v x := by cases h with | d q => exact q
abbrev rAddI : R2 := rI0 fun i j => .int (i + j)
abbrev rAddS : R2 := fun x y H Q => ∃ i j, x = .str i ∧ y = .str j ∧ i.length + j.length ≤ sizeLine ∧ Q (.str (i ++ j)) H
theorem or_add : OpR X (binaryOp .Add) (fun x y H Q => rAddI x y H Q ∨ rAddS x y H Q ∨ rCatA X.K x y H Q ∨ rCat x y H Q) := op_add.or (op_add_str.or (op_catA.or op_cat))
theorem ok_add : Ok2 X (fun x y H Q => rAddI x y H Q ∨ rAddS x y H Q ∨ rCatA X.K x y H Q ∨ rCat x y H Q) opAdd := by
  intro Wx σ H al T L x y w u Q r q1 q2 h
  unfold opAdd at h
  split at h
  · rename_i i j
    have e1 := dq_int (rp_d q1)
    have e2 := dq_int (rp_d q2)
    exact .inl ⟨i, j, e1, e2, gok r h (.d (.int _))⟩
  · rename_i a b
    have e1 := dq_str (rp_d q1)
    have e2 := dq_str (rp_d q2)
    split at h
    · exact .inr (.inl ⟨a, b, e1, e2, by assumption, gok r h (.d (.str _))⟩)
    · exact h.elim
  · rename_i xs ys
    obtain ⟨a, vs, rfl, e1, d1⟩ := dq_tup (rp_d q1)
    obtain ⟨b, us, rfl, e2, d2⟩ := dq_tup (rp_d q2)
    split at h
    · rename_i hl
      have l1 := d1.len
      have l2 := d2.len
      refine .inr (.inr (.inl ⟨a, b, vs, us, rfl, rfl, SqT.of (of_mask e1).2, SqT.of (of_mask e2).2, by omega, fun z => ?_, fun _ z => ?_, fun _ _ => gnew r h fun p hp e m e' => ?_⟩))
      · subst z
        cases d1
        exact gok r h (.d (.tup e2 d2))
      · subst z
        cases d2
        rw [List.append_nil] at h
        exact gok r h (.d (.tup e1 d1))
      · exact .d (.tup e' (dq_app (DqAll.le m d1) (DqAll.le m d2)))
    · exact h.elim
  · split at h
    · rename_i ws us e1 e2
      obtain ⟨a, vs, rfl, f1, d1⟩ := items_ok r q1 e1
      obtain ⟨b, us, rfl, f2, d2⟩ := items_ok r q2 e2
      have l1 := Paired.length d1
      have l2 := Paired.length d2
      split at h
      · split at h
        · rename_i xs ys e3 e4
          rw [datas_eq e3] at d1
          rw [datas_eq e4] at d2
          have d3 := dq_app (dq_all d1) (dq_all d2)
          refine .inr (.inr (.inr ⟨a, b, vs, _, rfl, rfl, f1, f2, by omega, gnew r h fun p hp e m e' => .d (.lst e' (DqAll.le m d3))⟩))
        · exact h.elim
      · exact h.elim
    · exact h.elim
def opI (g : Int → Int → Int) : Op2 := fun w u L => match w, u with
  | .d (.int i), .d (.int j) => .ok (.d (.int (g i j))) L
  | _, _ => .stuck
theorem ok_I {g : Int → Int → Int} : Ok2 X (rI0 fun i j => .int (g i j)) (opI g) := by
  intro Wx σ H al T L x y w u Q r q1 q2 h
  unfold opI at h
  split at h
  · exact ⟨_, _, dq_int (rp_d q1), dq_int (rp_d q2), gok r h (.d (.int _))⟩
  · exact h.elim
def opIC (C : Int → Int → Bool) (g : Int → Int → Int) : Op2 := fun w u L => match w, u with
  | .d (.int i), .d (.int j) => if C i j then .ok (.d (.int (g i j))) L else .stuck
  | _, _ => .stuck
theorem ok_IC {C : Int → Int → Bool} {D : Int → Int → Prop} {g : Int → Int → Int} (hC : ∀ i j, C i j = true → D i j) : Ok2 X (rI D fun i j => .int (g i j)) (opIC C g) := by
  intro Wx σ H al T L x y w u Q r q1 q2 h
  unfold opIC at h
  split at h
  · split at h
    · exact ⟨_, _, dq_int (rp_d q1), dq_int (rp_d q2), hC _ _ (by assumption), gok r h (.d (.int _))⟩
    · exact h.elim
  · exact h.elim
abbrev opSub : Op2 := opI fun i j => i - j
theorem ok_sub : Ok2 X (rI0 fun i j => .int (i - j)) opSub := ok_I
def mulC (i j : Int) : Bool := decide (i.natAbs.log2 + j.natAbs.log2 < 1000000)
def divC (_ j : Int) : Bool := decide (0 < j ∧ j.natAbs.log2 < 9000)
def modC (_ j : Int) : Bool := decide (0 < j)
def powC (i j : Int) : Bool := decide (0 ≤ j ∧ j ≤ 1000000 ∧ i.natAbs < 18446744073709551616)
abbrev opDiv : Op2 := opIC divC fun i j => i / j
theorem ok_div : Ok2 X (rI CDivW fun i j => .int (i / j)) opDiv := ok_IC fun i j h => (of_decide_eq_true h : 0 < j ∧ j.natAbs.log2 < 9000)
abbrev opMod : Op2 := opIC modC fun i j => i % j
theorem ok_mod : Ok2 X (rI (fun _ j => 0 < j) fun i j => .int (i % j)) opMod := ok_IC fun i j h => of_decide_eq_true h
abbrev opPow : Op2 := opIC powC fun i j => i ^ j.toNat
theorem ok_pow : Ok2 X (rI CPow fun i j => .int (i ^ j.toNat)) opPow := ok_IC fun i j h => by
  have := of_decide_eq_true h
  exact ⟨this.1, this.2.1, by rw [show (2 : Nat) ^ 64 = 18446744073709551616 from rfl]; exact this.2.2⟩
def rep {α : Type} (k : Nat) (xs : List α) : List α := (List.replicate k xs).flatten
def opMul : Op2 := fun w u L => match w, u with
  | .d (.int i), .d (.int j) => if mulC i j then .ok (.d (.int (i * j))) L else .stuck
  | .d (.tuple xs), .d (.int k) => if xs ≠ [] ∧ 2 ≤ k ∧ k ≤ 1000 ∧ xs.length ≤ 1000 then .ok (.d (.tuple (rep k.toNat xs))) L else .stuck
  | w, .d (.int k) => match w.items L with
    | some ws => if -(2 ^ 63) ≤ k ∧ k < 2 ^ 63 ∧ ws.length * k.toNat ≤ sizeLine then match datas ws with
      | some xs => .ok (.d (.list (rep k.toNat xs))) L
      | none => .stuck
      else .stuck
    | none => .stuck
  | _, _ => .stuck
theorem dq_rep {M : Hp} {vs : List V} {xs : List PyData} (h : DqAll M vs xs) : ∀ k : Nat, DqAll M (List.replicate k vs).flatten (List.replicate k xs).flatten
  | 0 => .nil
  | k + 1 => by rw [List.replicate_succ, List.replicate_succ, List.flatten_cons, List.flatten_cons]; exact dq_app h (dq_rep h k)
theorem or_mul : OpR X (binaryOp .Mult) (fun x y H Q => rI CMulW (fun i j => .int (i * j)) x y H Q ∨ rRepT X.K x y H Q ∨ rRep x y H Q) := op_mulW.or (op_repT.or op_rep)
theorem ok_mul : Ok2 X (fun x y H Q => rI CMulW (fun i j => .int (i * j)) x y H Q ∨ rRepT X.K x y H Q ∨ rRep x y H Q) opMul := by
  intro Wx σ H al T L x y w u Q r q1 q2 h
  unfold opMul at h
  split at h
  · split at h
    · rename_i hc
      exact .inl ⟨_, _, dq_int (rp_d q1), dq_int (rp_d q2), (of_decide_eq_true hc : _ < 1000000), gok r h (.d (.int _))⟩
    · exact h.elim
  · rename_i xs k
    obtain ⟨a, vs, rfl, e1, d1⟩ := dq_tup (rp_d q1)
    have e2 := dq_int (rp_d q2)
    split at h
    · rename_i hc
      have l1 := d1.len
      refine .inr (.inl ⟨a, k, vs, rfl, e2, SqT.of (of_mask e1).2, fun z => ?_, hc.2.1, hc.2.2.1, by omega, gnew r h fun p hp e m e' => .d (.tup e' (DqAll.le m (dq_rep d1 _)))⟩)
      subst z
      cases d1
      exact hc.1 rfl
    · exact h.elim
  · rename_i k _ _
    have e2 := dq_int (rp_d q2)
    split at h
    · rename_i ws e1
      obtain ⟨a, vs, rfl, f1, d1⟩ := items_ok r q1 e1
      have l1 := Paired.length d1
      split at h
      · rename_i hc
        split at h
        · rename_i xs e3
          rw [datas_eq e3] at d1
          exact .inr (.inr ⟨a, k, vs, rfl, e2, f1, hc.1, hc.2.1, by rw [l1]; exact hc.2.2, gnew r h fun p hp e m e' => .d (.lst e' (DqAll.le m (dq_rep (dq_all d1) _)))⟩)
        · exact h.elim
      · exact h.elim
    · exact h.elim
  · exact h.elim
def opC (g : Int → Int → Bool) : Op2 := fun w u L => match w, u with
  | .d (.int i), .d (.int j) => .ok (.d (.bool (g i j))) L
  | _, _ => .stuck
theorem ok_C {g : Int → Int → Bool} : Ok2 X (rI0 fun i j => .bl (g i j)) (opC g) := by
  intro Wx σ H al T L x y w u Q r q1 q2 h
  unfold opC at h
  split at h
  · exact ⟨_, _, dq_int (rp_d q1), dq_int (rp_d q2), gok r h (.d (.bl _))⟩
  · exact h.elim
abbrev opGt : Op2 := opC fun i j => decide (j < i)
abbrev opGe : Op2 := opC fun i j => decide (j ≤ i)
theorem ok_gt : Ok2 X (rI0 fun i j => .bl (decide (j < i))) opGt := ok_C
theorem ok_ge : Ok2 X (rI0 fun i j => .bl (decide (j ≤ i))) opGe := ok_C
def intsOf : List PyData → Option (List Int)
  | [] => some []
  | .int i :: r => (intsOf r).map (i :: ·)
  | _ :: _ => none
theorem intsOf_eq : ∀ {xs : List PyData} {ns : List Int}, intsOf xs = some ns → xs = ns.map PyData.int
  | [], ns, h => by cases h; rfl
  | .int x :: r, ns, h => by
    simp only [intsOf] at h
    cases e : intsOf r with
    | none => rw [e] at h; cases h
    | some ys => rw [e] at h; cases h; rw [intsOf_eq e]; rfl
  | .none :: _, _, h => by cases h
  | .bool _ :: _, _, h => by cases h
  | .str _ :: _, _, h => by cases h
  | .list _ :: _, _, h => by cases h
  | .tuple _ :: _, _, h => by cases h
  | .dict _ :: _, _, h => by cases h
@[simp] theorem intsOf_map (ns : List Int) : intsOf (ns.map PyData.int) = some ns := by
  induction ns with
  | nil => rfl
  | cons x r ih => simp only [List.map_cons, intsOf, ih]; rfl
theorem dq_ints {M : Hp} : ∀ {vs : List V} {ns : List Int}, DqAll M vs (ns.map PyData.int) → vs = ns.map V.int
  | _, [], .nil => rfl
  | _, _ :: _, .cons q r => by rw [dq_int q, dq_ints r]; rfl
def opLt : Op2 := fun w u L => match w, u with
  | .d (.int i), .d (.int j) => .ok (.d (.bool (decide (i < j)))) L
  | .d (.tuple xs), .d (.tuple ys) => match intsOf xs, intsOf ys with
    | some ns, some ms => .ok (.d (.bool (HT.lexLt ns ms))) L
    | _, _ => .stuck
  | _, _ => .stuck
theorem or_lt (hu : X.A.units < cLine) : OpR X (compareOp .Lt) (fun x y H Q => rI0 (fun i j => .bl (decide (i < j))) x y H Q ∨ rLtT X.K x y H Q) := op_lt.or (op_ltT hu)
theorem ok_lt : Ok2 X (fun x y H Q => rI0 (fun i j => .bl (decide (i < j))) x y H Q ∨ rLtT X.K x y H Q) opLt := by
  intro Wx σ H al T L x y w u Q r q1 q2 h
  unfold opLt at h
  split at h
  · exact .inl ⟨_, _, dq_int (rp_d q1), dq_int (rp_d q2), gok r h (.d (.bl _))⟩
  · split at h
    · rename_i ns ms e1 e2
      rw [intsOf_eq e1] at q1
      rw [intsOf_eq e2] at q2
      obtain ⟨a, vs, rfl, f1, d1⟩ := dq_tup (rp_d q1)
      obtain ⟨b, us, rfl, f2, d2⟩ := dq_tup (rp_d q2)
      have g1 := dq_ints d1
      have g2 := dq_ints d2
      subst g1
      subst g2
      exact .inr ⟨a, b, ns, ms, rfl, rfl, SqT.of (of_mask f1).2, SqT.of (of_mask f2).2, gok r h (.d (.bl _))⟩
    · exact h.elim
  · exact h.elim
def twoStr : PyData → PyData → Bool
  | .str _, .str _ => true
  | _, _ => false
def cmpOk (x y : PyData) : Bool := twoStr x y || (SeqAt.shaped x && SeqAt.shaped y)
theorem twoStr_eq {x y : PyData} (h : twoStr x y = true) : ∃ a b, x = .str a ∧ y = .str b := by
  cases x <;> cases y <;> first | exact ⟨_, _, rfl, rfl⟩ | (simp [twoStr] at h)
def opEq : Op2 := fun w u L => match w.data L, u.data L with
  | some x, some y => if cmpOk x y then .ok (.d (.bool (PyData.eqv x y))) L else .stuck
  | _, _ => .stuck
def opNe : Op2 := fun w u L => match w.data L, u.data L with
  | some x, some y => if cmpOk x y then .ok (.d (.bool (!PyData.eqv x y))) L else .stuck
  | _, _ => .stuck
abbrev rEqAny (X : Cx) : R2 := fun x y H Q => rEq x y H Q ∨ rEqD X.K x y H Q
abbrev rNeAny (X : Cx) : R2 := fun x y H Q => rNe x y H Q ∨ rNeD X.K x y H Q
theorem or_eq (hu : X.A.units + 64 < cLine) : OpR X (compareOp .Eq) (rEqAny X) := op_eq.or (op_eqD hu)
theorem or_ne (hu : X.A.units + 64 < cLine) : OpR X (compareOp .NotEq) (rNeAny X) := op_ne.or (op_neD hu)
theorem ok_eq : Ok2 X (rEqAny X) opEq := by
  intro Wx σ H al T L x y w u Q r q1 q2 h
  unfold opEq at h
  split at h
  · split at h
    · rename_i e1 e2 hc
      unfold cmpOk at hc
      rw [Bool.or_eq_true, Bool.and_eq_true] at hc
      rcases hc with hc | hc
      · obtain ⟨a, b, rfl, rfl⟩ := twoStr_eq hc
        have h1 := dq_str (data_ok r q1 e1)
        have h2 := dq_str (data_ok r q2 e2)
        subst h1 h2
        refine .inl ⟨rfl, gok r h ?_⟩
        have : decide (V.str a = V.str b) = PyData.eqv (.str a) (.str b) := by
          rw [Bool.eq_iff_iff]
          simp [PyData.eqv]
        rw [this]
        exact .d (.bl _)
      · exact .inr ⟨_, _, (data_ok r q1 e1).dp, (data_ok r q2 e2).dp, hc.1, hc.2, gok r h (.d (.bl _))⟩
    · exact h.elim
  · exact h.elim
theorem ok_ne : Ok2 X (rNeAny X) opNe := by
  intro Wx σ H al T L x y w u Q r q1 q2 h
  unfold opNe at h
  split at h
  · split at h
    · rename_i e1 e2 hc
      unfold cmpOk at hc
      rw [Bool.or_eq_true, Bool.and_eq_true] at hc
      rcases hc with hc | hc
      · obtain ⟨a, b, rfl, rfl⟩ := twoStr_eq hc
        have h1 := dq_str (data_ok r q1 e1)
        have h2 := dq_str (data_ok r q2 e2)
        subst h1 h2
        refine .inl ⟨rfl, gok r h ?_⟩
        have : (!decide (V.str a = V.str b)) = !PyData.eqv (.str a) (.str b) := by
          congr 1
          rw [Bool.eq_iff_iff]
          simp [PyData.eqv]
        rw [this]
        exact .d (.bl _)
      · exact .inr ⟨_, _, (data_ok r q1 e1).dp, (data_ok r q2 e2).dp, hc.1, hc.2, gok r h (.d (.bl _))⟩
    · exact h.elim
  · exact h.elim
def Va.isN : Va → Bool
  | .d .none => true
  | _ => false
def opIsN : Op2 := fun w u L => match u with
  | .d .none => .ok (.d (.bool w.isN)) L
  | _ => .stuck
def opNotN : Op2 := fun w u L => match u with
  | .d .none => .ok (.d (.bool (!w.isN))) L
  | _ => .stuck
def opIsB : Op2 := fun w u L => match w, u with
  | .d (.bool a), .d (.bool b) => .ok (.d (.bool (decide (a = b)))) L
  | _, _ => .stuck
def opNotB : Op2 := fun w u L => match w, u with
  | .d (.bool a), .d (.bool b) => .ok (.d (.bool (!decide (a = b)))) L
  | _, _ => .stuck
theorem ok_isB : Ok2 X rIsB opIsB := by
  intro Wx σ H al T L x y w u Q r q1 q2 h
  unfold opIsB at h
  split at h
  · exact ⟨_, _, dq_bl (rp_d q1), dq_bl (rp_d q2), gok r h (.d (.bl _))⟩
  · exact h.elim
theorem ok_notB : Ok2 X rNotB opNotB := by
  intro Wx σ H al T L x y w u Q r q1 q2 h
  unfold opNotB at h
  split at h
  · exact ⟨_, _, dq_bl (rp_d q1), dq_bl (rp_d q2), gok r h (.d (.bl _))⟩
  · exact h.elim
end
end L2.HW
namespace L2.HW
open PySem PySem.Spec PyProof.Rows
section
variable {X : Cx} {Wx : WX}
def mkTup (ws : List Va) : Va := match datas ws with
  | some xs => .d (.tuple xs)
  | none => .tup ws
@[simp] theorem mkTup_map (xs : List PyData) : mkTup (xs.map Va.d) = .d (.tuple xs) := by simp [mkTup]
@[simp] theorem mkTup_0 : mkTup [] = .d (.tuple []) := (rfl)
theorem rp_mkTup {K : PySem.W.Frag} {mg : Str → Option Value} {M : Hp} {al : List Addr} {a : Addr} {vs : List V} {ws : List Va} (e : M a = some (.tup vs)) (r : Rps K mg M al vs ws) : Rp K mg M al (.ref a) (mkTup ws) := by
  unfold mkTup
  split
  · rename_i xs h
    rw [datas_eq h] at r
    exact .d (.tup e (dq_all r))
  · exact .tup e r
def eTup (fs : En → LH → Res (List Va)) : EF := fun env L => (fs env L).bind fun ws L1 => if ws.length ≤ sizeLine then .ok (mkTup ws) L1 else .stuck
theorem se_tup {es : List Expr} {fs : En → LH → Res (List Va)} {k : Nat} {pos : Pos} (h : SA X Wx es fs) : SE X Wx (.Tuple es k pos) (eTup fs) := by
  refine PE.imp (pe_tup h) ?_
  rintro σ H Q ⟨env, L, al, T, c, q⟩
  refine rseq (R := RVs X) c q fun vs H1 ws L1 al1 c1 s1 r1 q1 => ?_
  split at q1
  · exact ⟨by rw [Paired.length r1]; assumption, gnew c1.rel q1 fun p hp e m e' => rp_mkTup e' (Rps.le m (ALe.refl _) r1)⟩
  · exact q1.elim
theorem fseq {σ : St} {H : Hp} {al T : List Addr} {L : LH} {α β : Type} {R : Hp → List Addr → β → α → Prop} {env : En} {f : En → LH → Res α} {k : α → LH → Res Ob} {Q : VK} {Q' : β → Hp → Prop}
    (c : Conf X.K X.mg σ H env L al T) (h : FPost X Wx σ H al T L ((f env L).bind k) Q)
    (hk : ∀ b H1 a L1 al1, Conf X.K X.mg σ H1 env L1 al1 T → Stp X.K X.mg H al T L H1 al1 T L1 → R (mask H1 (al1 ++ T)) al1 b a → FPost X Wx σ H1 al1 T L1 (k a L1) Q → Q' b H1) : Rdg X Wx R f σ H Q' := by
  refine ⟨env, L, al, T, c, ?_⟩
  revert h
  generalize f env L = r
  intro g
  cases r with
  | stuck => exact g
  | exc c f L1 => exact g
  | ok b L1 =>
    intro b' H1 al1 s1 q1
    refine hk b' H1 b L1 al1 (c.stp s1) s1 q1 ?_
    simp only [Res.bind_ok] at g
    revert g
    generalize k b L1 = r2
    intro g
    have back : ∀ x, H1 x = none → H x = none := fun x z => by
      cases e : H x with
      | none => rfl
      | some o => exact absurd z (s1.stay x (by rw [e]; simp))
    cases r2 with
    | stuck => exact g
    | exc c' f L2 => exact fun cls d H' al' t q => g cls d H' al' (Stp.trans c.rel.len s1 t) q
    | ok o L2 => exact fun a H' al' ha t q => g a H' al' (back a ha) (Stp.trans c.rel.len s1 t) q
def fLst (fs : En → LH → Res (List Va)) : En → LH → Res Ob := fun env L => (fs env L).bind fun ws L1 => if ws.length ≤ sizeLine then .ok (.lst ws) L1 else .stuck
theorem sf_lst {es : List Expr} {fs : En → LH → Res (List Va)} {pos : Pos} (h : SA X Wx es fs) : SF X Wx (.List es pos) (fLst fs) := by
  refine PE.imp (pe_lst h) ?_
  rintro σ H Q ⟨env, L, al, T, c, q⟩
  refine fseq (R := RVs X) c q fun vs H1 ws L1 al1 c1 s1 r1 q1 => ?_
  split at q1
  · exact ⟨by rw [Paired.length r1]; assumption, fnew c1.rel q1 fun p hp e m => ⟨vs, e, Rps.le m (ALe.refl _) r1⟩⟩
  · exact q1.elim
def aStar (f : EF) (g : En → LH → Res (List Va)) : En → LH → Res (List Va) := fun env L => (f env L).bind fun w L1 => match w.seq L1 with
  | some us => (g env L1).bind fun ws L2 => .ok (us ++ ws) L2
  | none => .stuck
theorem rps_app {K : PySem.W.Frag} {mg : Str → Option Value} {M : Hp} {al : List Addr} : ∀ {vs us : List V} {xs ys : List Va}, Rps K mg M al vs xs → Rps K mg M al us ys → Rps K mg M al (vs ++ us) (xs ++ ys)
  | _, _, _, _, .nil, h => h
  | _, _, _, _, .cons a b, h => .cons a (rps_app b h)
theorem sa_star {e : Expr} {p : Pos} {es : List Expr} {fe : EF} {fs : En → LH → Res (List Va)} (ha : SE X Wx e fe) (hr : SA X Wx es fs) (hs : starEach (.Starred e p :: es) X.env = (true, eval e X.env) :: starEach es X.env := by rfl) : SA X Wx (.Starred e p :: es) (aStar fe fs) := by
  refine PA.imp (StX.pa_star ha hr hs) ?_
  rintro σ H Q ⟨env, L, al, T, c, q⟩
  refine rseq (R := RV X) c q fun v H1 w L1 al1 c1 s1 r1 q1 => ?_
  split at q1
  · rename_i us e
    obtain ⟨a, vs, rfl, hq, r2⟩ := seq_ok c1.rel r1 e
    refine ⟨a, vs, rfl, hq.symm, rseq (R := RVs X) c1 q1 fun vs2 H2 ws L2 al2 c2 s2 r3 q2 => ?_⟩
    exact gok c2.rel q2 (rps_app (s2.rps r2) r3)
  · exact q1.elim

def alook {κ α : Type} [DecidableEq κ] (ks : List (κ × α)) (k : κ) : Option α := (ks.find? fun kv => decide (kv.1 = k)).map (·.2)
@[simp] theorem alook_nil {κ α : Type} [DecidableEq κ] (k : κ) : alook ([] : List (κ × α)) k = none := (rfl)
theorem alook_cons {κ α : Type} [DecidableEq κ] (k' : κ) (x : α) (ks : List (κ × α)) (k : κ) : alook ((k', x) :: ks) k = if k' = k then some x else alook ks k := by
  unfold alook
  rw [List.find?_cons]
  by_cases h : k' = k
  · simp [h]
  · simp [h]
def ORp {α : Type} (R : V → α → Prop) : Option V → Option α → Prop
  | some z, some x => R z x
  | none, none => True
  | _, _ => False
theorem look_pair {κ κ' α : Type} [DecidableEq κ] [DecidableEq κ'] {f : κ → κ'} (hf : ∀ a b, f a = f b → a = b) {R : V → α → Prop} {ks : List (κ' × V)} {as : List (κ × α)} (r : Paired (fun (p : κ' × V) (q : κ × α) => p.1 = f q.1 ∧ R p.2 q.2) ks as) (k : κ) : ORp R (valV ks (f k)) (alook as k) := by
  induction r with
  | nil => trivial
  | @cons p q ps qs h _ ih =>
    obtain ⟨pk, pv⟩ := p
    obtain ⟨qk, qv⟩ := q
    obtain ⟨h1, h2⟩ := h
    simp only at h1 h2
    subst h1
    rw [alook_cons]
    by_cases e : qk = k
    · subst e
      rw [if_pos rfl, valV_pos rfl]
      exact h2
    · rw [if_neg e, valV_neg (fun z => e (hf _ _ z))]
      exact ih
def Va.dget (L : LH) (w u : Va) : Option (Option Va) := match w, u with
  | .dct ks, .d (.int i) => some ((alook ks i).map Va.d)
  | .loc n, .d (.int i) => match L[n]? with
    | some (some (.di ks)) => some (alook ks i)
    | _ => none
  | .loc n, .d (.tuple xs) => match L[n]?, intsOf xs with
    | some (some (.dt ks)), some ns => some (alook ks ns)
    | _, _ => none
  | _, _ => none
theorem inl_inj (a b : Int) (h : (Sum.inl a : Key) = Sum.inl b) : a = b := by cases h; rfl
theorem map_inl_inj : ∀ (a b : List Int), a.map (Sum.inl : Int → Key) = b.map Sum.inl → a = b
  | [], [], _ => rfl
  | [], _ :: _, h => by cases h
  | _ :: _, [], h => by cases h
  | x :: a, y :: b, h => by
    simp only [List.map_cons, List.cons.injEq] at h
    rw [inl_inj _ _ h.1, map_inl_inj a b h.2]
theorem dget_ok {K : PySem.W.Frag} {mg : Str → Option Value} {H : Hp} {al T : List Addr} {L : LH} (r : Rel K mg H al T L) {v y : V} {w u : Va} {o : Option Va} (q : Rp K mg (mask H (al ++ T)) al v w) (q2 : Rp K mg (mask H (al ++ T)) al y u) (e : w.dget L u = some o) :
    ∃ a ov, v = .ref a ∧ DGet H a y ov ∧ ORp (Rp K mg (mask H (al ++ T)) al) ov o := by
  unfold Va.dget at e
  split at e
  · rename_i ks i
    cases e
    have hy := dq_int (rp_d q2)
    subst hy
    cases q with
    | @dct a kvs _ e1 e2 =>
      have l := look_pair (f := (Sum.inl : Int → Key)) inl_inj e2 i
      refine ⟨a, valV kvs (Sum.inl i), rfl, DGet.k (k := Sum.inl i) (of_mask e1).2, ?_⟩
      revert l
      cases alook ks i <;> cases valV kvs (Sum.inl i) <;> intro l
      · trivial
      · exact l
      · exact l
      · exact .d l
  · rename_i n i
    split at e
    · rename_i ks e1
      cases e
      have hy := dq_int (rp_d q2)
      subst hy
      cases q with
      | @loc _ a e2 =>
        obtain ⟨a', e3, kvs, e4, e5⟩ := r.cell n _ e1
        rw [e2] at e3; cases e3
        exact ⟨a, valV kvs (Sum.inl i), rfl, DGet.k (k := Sum.inl i) e4, look_pair (f := (Sum.inl : Int → Key)) inl_inj e5 i⟩
    · cases e
  · rename_i n xs
    split at e
    · rename_i ks ns e1 e0
      cases e
      rw [intsOf_eq e0] at q2
      obtain ⟨b, us, rfl, f1, d1⟩ := dq_tup (rp_d q2)
      have g1 := dq_ints d1
      subst g1
      cases q with
      | @loc _ a e2 =>
        obtain ⟨a', e3, kvs, e4, e5⟩ := r.cell n _ e1
        rw [e2] at e3; cases e3
        exact ⟨a, valV kvs (ns.map Sum.inl), rfl, DGet.t (k := ns.map Sum.inl) e4 (by rw [List.map_map]; exact (of_mask f1).2), look_pair (f := fun ns : List Int => ns.map (Sum.inl : Int → Key)) map_inl_inj e5 ns⟩
    · cases e
  · cases e
theorem atI_pair {K : PySem.W.Frag} {mg : Str → Option Value} {M : Hp} {al : List Addr} {vs : List V} {ws : List Va} (r : Rps K mg M al vs ws) {i : Int} {x : Va} (e : atI ws i = some x) : ∃ z, atI vs i = some z ∧ Rp K mg M al z x := by
  unfold atI at e ⊢
  rw [Paired.length r]
  cases h : ixN ws.length i with
  | none => rw [h] at e; cases e
  | some j =>
    rw [h] at e
    simp only [Option.bind_some] at e ⊢
    clear h
    induction r generalizing j with
    | nil => simp at e
    | cons a b ih =>
      cases j with
      | zero => simp at e; subst e; exact ⟨_, rfl, a⟩
      | succ j => simpa using ih j (by simpa using e)
def opIx : Op2 := fun w u L => match w.dget L u with
  | some (some x) => .ok x L
  | some none => .stuck
  | none => match u with
    | .d (.int i) => match w.seq L with
      | some ws => match atI ws i with
        | some x => .ok x L
        | none => .stuck
      | none => match w with
        | .d (.str z) => if z.length ≤ sizeLine then match atI z.cps.toList i with
          | some c => .ok (.d (.str ⟨#[c]⟩)) L
          | none => .stuck
          else .stuck
        | _ => .stuck
    | _ => .stuck
def rIxD : R2 := fun x y H Q => ∃ a v, x = .ref a ∧ DGet H a y (some v) ∧ Q v H
theorem ix_dict (hu : X.A.units + 1 < cLine) : IxR X rIxD := by
  intro value slice pins s σ H x y v u Q I rx ry h hs
  obtain ⟨a, z, rfl, g, q⟩ := h
  obtain rfl : v = Value.ref a := rx
  have hT := dict_typeIs I g
  unfold subscriptTail
  refine wpAny_bind ?_
  rw [getitemInPython_of_ne hT.not_modules]
  refine wpAny_bind (wpAny_specialOf hT PySem.F.slot_dict_getitem.lookup ?_)
  have fin : wpAny (model X.prog X.w) X.A (subscripted slice false (.ref a) u) (fun r s₃ => wpAny (model X.prog X.w) X.A (letTemporaryGo value (.ref a) r >>= fun _ => pure r) (EP X pins σ Q) X.xe s₃) X.xe s := by
    rw [hs]
    exact wpAny_operating (wpAny_mono (d_getItem (Q := EP X pins σ Q) (E := X.xe) hu I g ry fun w' s' I' r' => ⟨z, H, I', r', q⟩) (fun r s₃ h₃ => wpAny_bind (wpAny_letTemporaryGo (wpAny_pure h₃))) fun _ _ x => x)
  first
    | exact wpAny_pure (wpAny_bind fin)
    | exact wpAny_bind (wpAny_pure (wpAny_bind fin))
    | exact wpAny_bind fin
theorem ok_ix : Ok2 X (fun x y H Q => rIxD x y H Q ∨ rIx X.K x y H Q) opIx := by
  intro Wx σ H al T L x y w u Q r q1 q2 h
  unfold opIx at h
  split at h
  · rename_i x e
    obtain ⟨a, ov, rfl, g, k⟩ := dget_ok r q1 q2 e
    cases ov with
    | none => exact k.elim
    | some z => exact .inl ⟨a, z, rfl, g, gok r h k⟩
  · exact h.elim
  · split at h
    · rename_i i _
      have hy := dq_int (rp_d q2)
      split at h
      · rename_i ws e
        obtain ⟨a, vs, rfl, sq, rr⟩ := seq_ok r q1 e
        split at h
        · rename_i x e2
          obtain ⟨z, h1, h2⟩ := atI_pair rr e2
          rcases sq with sq | sq
          · exact .inr (.inl ⟨a, vs, i, z, rfl, hy, sq, h1, gok r h h2⟩)
          · exact .inr (.inr (.inl ⟨a, vs, i, z, rfl, hy, sq, h1, gok r h h2⟩))
        · exact h.elim
      · split at h
        · rename_i z _ _
          split at h
          · split at h
            · rename_i hz _ c e2
              exact .inr (.inr (.inr ⟨z, i, c, dq_str (rp_d q1), hy, hz, e2, gok r h (.d (.str _))⟩))
            · exact h.elim
          · exact h.elim
        · exact h.elim
    · exact h.elim
theorem se_ix {a b : Expr} {fa fb : EF} {pos : Pos} (hu : X.A.units + 1 < cLine) (ha : SE X Wx a fa) (hb : SE X Wx b fb) (hs : PlainIx b := by exact fun _ _ => rfl) : SE X Wx (.Subscript a b pos) (eOp opIx fa fb) :=
  PE.imp (pe_ix ((ix_dict hu).or ix_seq) ha hb hs) fun _ _ _ h => op_core ok_ix h
end
end L2.HW
namespace L2.HW
open PySem PySem.Spec PyProof.Rows
section
variable {X : Cx} {Wx : WX}
def SO (X : Cx) (Wx : WX) (e : Option Expr) (f : En → LH → Res (Option Int)) : Prop := PO X e (Rdg X Wx RO f)
theorem PO.imp {e : Option Expr} {t t' : TO} (h : PO X e t) (k : ∀ σ H Q, t' σ H Q → t σ H Q) : PO X e t' := ⟨fun pins s σ H Q I q => h.run pins s σ H Q I (k σ H Q q)⟩
def pNone : En → LH → Res (Option Int) := fun _ L => .ok none L
def pSome (f : EF) : En → LH → Res (Option Int) := fun env L => (f env L).bind fun w L1 => match w with
  | .d (.int i) => .ok (some i) L1
  | _ => .stuck
theorem so_none : SO X Wx none pNone := PO.imp po_none fun σ H Q ⟨env, L, al, T, c, h⟩ => gok c.rel h rfl
theorem so_some {e : Expr} {f : EF} (h : SE X Wx e f) : SO X Wx (some e) (pSome f) := by
  refine PO.imp (po_some h) ?_
  rintro σ H Q ⟨env, L, al, T, c, q⟩
  refine rseq (R := RV X) c q fun v H1 w L1 al1 c1 s1 r1 q1 => ?_
  split at q1
  · exact ⟨_, dq_int (rp_d r1), gok c1.rel q1 rfl⟩
  · exact q1.elim
def cutA {α : Type} (xs : List α) (lo hi : Option Int) : List α := (xs.drop (HT.sIx xs.length 0 lo)).take (HT.sIx xs.length xs.length hi - HT.sIx xs.length 0 lo)
theorem cutA_map {α β : Type} (f : α → β) (xs : List α) (lo hi : Option Int) : cutA (xs.map f) lo hi = (cutA xs lo hi).map f := by
  unfold cutA
  simp [List.map_drop, List.map_take]
theorem rps_drop {K : PySem.W.Frag} {mg : Str → Option Value} {M : Hp} {al : List Addr} : ∀ {vs : List V} {ws : List Va} (n : Nat), Rps K mg M al vs ws → Rps K mg M al (vs.drop n) (ws.drop n)
  | _, _, 0, h => h
  | _, _, _ + 1, .nil => .nil
  | _, _, n + 1, .cons _ b => rps_drop n b
theorem rps_take {K : PySem.W.Frag} {mg : Str → Option Value} {M : Hp} {al : List Addr} : ∀ {vs : List V} {ws : List Va} (n : Nat), Rps K mg M al vs ws → Rps K mg M al (vs.take n) (ws.take n)
  | _, _, 0, _ => .nil
  | _, _, _ + 1, .nil => .nil
  | _, _, n + 1, .cons a b => .cons a (rps_take n b)
theorem rps_cut {K : PySem.W.Frag} {mg : Str → Option Value} {M : Hp} {al : List Addr} {vs : List V} {ws : List Va} (h : Rps K mg M al vs ws) (lo hi : Option Int) : Rps K mg M al (cutV vs lo hi) (cutA ws lo hi) := by
  unfold cutV cutA
  rw [Paired.length h]
  exact rps_take _ (rps_drop _ h)
theorem cut_whole {α : Type} {xs : List α} {lo hi : Option Int} (h : HT.sIx xs.length 0 lo = 0 ∧ HT.sIx xs.length xs.length hi = xs.length) : cutA xs lo hi = xs := by
  unfold cutA
  rw [h.1, h.2]
  simp
def opSl (w : Va) (lo hi : Option Int) (L : LH) : Res Va := match w with
  | .d (.tuple xs) => .ok (.d (.tuple (cutA xs lo hi))) L
  | .d (.str z) => if z.length ≤ sizeLine then .ok (.d (.str (cutS z lo hi))) L else .stuck
  | w => match w.items L with
    | some ws => match datas (cutA ws lo hi) with
      | some xs => .ok (.d (.list xs)) L
      | none => .stuck
    | none => .stuck
def eSl (f : EF) (p q : En → LH → Res (Option Int)) : EF := fun env L => (f env L).bind fun w L1 => (p env L1).bind fun lo L2 => (q env L2).bind fun hi L3 => opSl w lo hi L3
abbrev rSlAny (X : Cx) : V → Option Int → Option Int → Hp → VK → Prop := fun x lo hi H Q => rSlA X.K x lo hi H Q ∨ rSlL X.K x lo hi H Q ∨ rSlS x lo hi H Q
theorem sl_any : SlR X (rSlAny X) := SlR.or sl_tupA (SlR.or sl_list sl_str)
theorem se_sl {e : Expr} {lo hi : Option Expr} {f : EF} {p q : En → LH → Res (Option Int)} {p2 pos : Pos} (he : SE X Wx e f) (hl : SO X Wx lo p) (hu : SO X Wx hi q) : SE X Wx (.Subscript e (.Slice lo hi none p2) pos) (eSl f p q) := by
  refine PE.imp (pe_slice sl_any he hl hu) ?_
  rintro σ H Q ⟨env, L, al, T, c, h⟩
  refine rseq (R := RV X) c h fun v H1 w L1 al1 c1 s1 r1 h1 => ?_
  refine rseq (R := RO) c1 h1 fun lo' H2 lo L2 al2 c2 s2 e2 h2 => ?_
  refine rseq (R := RO) c2 h2 fun hi' H3 hi L3 al3 c3 s3 e3 h3 => ?_
  obtain rfl : lo' = lo := e2
  obtain rfl : hi' = hi := e3
  have r3 := s3.rp (s2.rp r1)
  unfold opSl at h3
  split at h3
  · rename_i xs
    obtain ⟨a, vs, rfl, e1, d1⟩ := dq_tup (rp_d r3)
    have l1 := d1.len
    refine .inl ⟨a, vs, rfl, SqT.of (of_mask e1).2, fun z => ?_, fun z => gnew c3.rel h3 fun p hp e m e' => ?_⟩
    · rw [l1] at z
      rw [cut_whole z] at h3
      exact gok c3.rel h3 (.d (.tup e1 d1))
    · have := rps_cut (K := X.K) (mg := X.mg) (al := al3) (all_dq (K := X.K) (mg := X.mg) (al := al3) d1) lo' hi'
      rw [cutA_map] at this
      exact .d (.tup e' (DqAll.le m (dq_all this)))
  · rename_i z
    split at h3
    · exact .inr (.inr ⟨z, dq_str (rp_d r3), by assumption, gok c3.rel h3 (.d (.str _))⟩)
    · exact h3.elim
  · split at h3
    · rename_i ws e1
      obtain ⟨a, vs, rfl, f1, d1⟩ := items_ok c3.rel r3 e1
      split at h3
      · rename_i xs e4
        have := rps_cut d1 lo' hi'
        rw [datas_eq e4] at this
        exact .inr (.inl ⟨a, vs, rfl, SqL.of f1, gnew c3.rel h3 fun p hp e m e' => .d (.lst e' (DqAll.le m (dq_all this)))⟩)
      · exact h3.elim
    · exact h3.elim
def fSl (f : EF) (p q : En → LH → Res (Option Int)) : En → LH → Res Ob := fun env L => (f env L).bind fun w L1 => (p env L1).bind fun lo L2 => (q env L2).bind fun hi L3 => match w.items L3 with
  | some ws => .ok (.lst (cutA ws lo hi)) L3
  | none => .stuck
def fCat (f g : EF) : En → LH → Res Ob := fun env L => (f env L).bind fun w L1 => (g env L1).bind fun u L2 => match w.items L2, u.items L2 with
  | some ws, some us => if ws.length + us.length ≤ sizeLine then .ok (.lst (ws ++ us)) L2 else .stuck
  | _, _ => .stuck
def fRep (f g : EF) : En → LH → Res Ob := fun env L => (f env L).bind fun w L1 => (g env L1).bind fun u L2 => match w.items L2, u with
  | some ws, .d (.int k) => if -(2 ^ 63) ≤ k ∧ k < 2 ^ 63 ∧ ws.length * k.toNat ≤ sizeLine then .ok (.lst (rep k.toNat ws)) L2 else .stuck
  | _, _ => .stuck
def flatD : PyData → Bool
  | .none => true
  | .bool _ => true
  | .int _ => true
  | .str _ => true
  | _ => false
theorem flat_eq {M : Hp} {v y : V} {x z : PyData} (h1 : Dq M v x) (h2 : Dq M y z) (f1 : flatD x = true) (f2 : flatD z = true) : flatV v = true ∧ eqV y v = PyData.eqv z x := by
  cases h1 <;> first | (cases f1; done) | (cases h2 <;> first | (cases f2; done) | exact ⟨rfl, by simp [eqV, PyData.eqv]⟩)
theorem flat_all {M : Hp} {v : V} {x : PyData} (h1 : Dq M v x) (f1 : flatD x = true) : ∀ {vs : List V} {xs : List PyData}, DqAll M vs xs → xs.all flatD = true → vs.all flatV = true ∧ inV v vs = xs.any fun z => PyData.eqv z x
  | _, _, .nil, _ => ⟨rfl, rfl⟩
  | _, _, .cons a b, f => by
    rw [List.all_cons, Bool.and_eq_true] at f
    obtain ⟨h, e⟩ := flat_eq h1 a f1 f.1
    obtain ⟨h3, _⟩ := flat_eq a a f.1 f.1
    obtain ⟨h2, e2⟩ := flat_all h1 f1 b f.2
    refine ⟨by rw [List.all_cons, h3, h2]; rfl, ?_⟩
    have e2' := e2
    unfold inV at e2' ⊢
    rw [List.any_cons, List.any_cons, e, e2']
def opIn (neg : Bool) : Op2 := fun w u L => match u.dget L w with
  | some o => .ok (.d (.bool (if neg then !o.isSome else o.isSome))) L
  | none => match u, w with
    | .d (.str z), .d (.str s) => match s.cps.toList with
      | [c] => .ok (.d (.bool (if neg then !decide (c ∈ z.cps.toList) else decide (c ∈ z.cps.toList)))) L
      | _ => .stuck
    | .d (.tuple ds), .d x => if flatD x && ds.all flatD then .ok (.d (.bool (if neg then !(ds.any fun z => PyData.eqv z x) else ds.any fun z => PyData.eqv z x))) L else .stuck
    | u, w => match u.data L, w.data L with
      | some (.list ds), some x => if SeqAt.shaped x && SeqAt.shaped (.list ds) then .ok (.d (.bool (if neg then !(ds.any fun z => PyData.eqv z x) else ds.any fun z => PyData.eqv z x))) L else .stuck
      | _, _ => .stuck
def rInDc (neg : Bool) : R2 := fun x y H Q => ∃ a o, y = .ref a ∧ DGet H a x o ∧ Q (.bl (if neg then !o.isSome else o.isSome)) H
theorem op_notIn_dict (hu : X.A.units + 1 < cLine) : OpR X (compareOp .NotIn) (rInDc true) := by
  intro pins s σ H x y v u Q I rx ry h
  obtain ⟨a, o, rfl, g, q⟩ := h
  obtain rfl : u = Value.ref a := ry
  exact d_notIn hu I g rx fun s3 I3 => ⟨.bl (!o.isSome), H, I3, rfl, q⟩
abbrev rInSg (neg : Bool) : R2 := fun x y H Q => ∃ (c : Nat) (z : Str), x = .str ⟨#[c]⟩ ∧ y = .str z ∧ Q (.bl (if neg then !decide (c ∈ z.cps.toList) else decide (c ∈ z.cps.toList))) H
abbrev rInDd (X : Cx) (neg : Bool) : R2 := fun x y H Q => ∃ d ds, Dp X.K H x d ∧ Dp X.K H y (.list ds) ∧ SeqAt.shaped d = true ∧ SeqAt.shaped (.list ds) = true ∧ Q (.bl (if neg then !(ds.any fun z => PyData.eqv z d) else ds.any fun z => PyData.eqv z d)) H
abbrev rInAny (X : Cx) (neg : Bool) : R2 := fun x y H Q => rInDc neg x y H Q ∨ rInSg neg x y H Q ∨ rIn X.K neg x y H Q ∨ rInDd X neg x y H Q
theorem op_notIn_any (hu : X.A.units + 65 < cLine) : OpR X (compareOp .NotIn) (rInAny X true) :=
  OpR.or (op_notIn_dict (by omega)) (OpR.or (r := rInSg true) op_notIn_sign (OpR.or op_notIn_seq (r' := rInDd X true) (op_notInD hu)))
theorem ok_in {neg : Bool} : Ok2 X (rInAny X neg) (opIn neg) := by
  intro Wx σ H al T L x y w u Q r q1 q2 h
  unfold opIn at h
  split at h
  · rename_i o e
    obtain ⟨a, ov, rfl, g, k⟩ := dget_ok r q2 q1 e
    refine .inl ⟨a, ov, rfl, g, ?_⟩
    have : ov.isSome = o.isSome := by
      cases ov <;> cases o <;> first | rfl | exact k.elim
    rw [this]
    exact gok r h (.d (.bl _))
  · split at h
    · rename_i z s _
      split at h
      · rename_i c e
        have e1 : s = ⟨#[c]⟩ := by
          obtain ⟨cps⟩ := s
          simp only at e
          congr 1
          exact Array.toList_inj.mp e
        refine .inr (.inl ⟨c, z, ?_, dq_str (rp_d q2), gok r h (.d (.bl _))⟩)
        rw [dq_str (rp_d q1), e1]
      · exact h.elim
    · rename_i ds x _
      split at h
      · rename_i hc
        rw [Bool.and_eq_true] at hc
        obtain ⟨a, vs, rfl, e1, d1⟩ := dq_tup (rp_d q2)
        obtain ⟨h1, h2⟩ := flat_all (rp_d q1) hc.1 d1 hc.2
        obtain ⟨h3, _⟩ := flat_eq (rp_d q1) (rp_d q1) hc.1 hc.1
        refine .inr (.inr (.inl ⟨a, vs, rfl, .inr (SqT.of (of_mask e1).2), h3, h1, ?_⟩))
        rw [h2]
        exact gok r h (.d (.bl _))
      · exact h.elim
    · split at h
      · rename_i ds x e1 e2
        split at h
        · rename_i hc
          rw [Bool.and_eq_true] at hc
          exact .inr (.inr (.inr ⟨x, ds, (data_ok r q1 e2).dp, (data_ok r q2 e1).dp, hc.1, hc.2, gok r h (.d (.bl _))⟩))
        · exact h.elim
      · exact h.elim
end
end L2.HW
namespace L2.HW
open PySem PySem.Spec PyProof.Rows
section
variable {X : Cx} {Wx : WX}
def OkC (X : Cx) (r : List V → Hp → VK → Prop) (g : List Va → LH → Res Va) : Prop := ∀ (Wx : WX) (σ : St) (H : Hp) (al T : List Addr) (L : LH) (xs : List V) (ws : List Va) (Q : VK), Rel X.K X.mg H al T L → RVs X (mask H (al ++ T)) al xs ws →
  GPost X Wx σ H al T L (RV X) (g ws L) Q → r xs H Q
def OkCF (X : Cx) (r : List V → Hp → VK → Prop) (g : List Va → LH → Res Ob) : Prop := ∀ (Wx : WX) (σ : St) (H : Hp) (al T : List Addr) (L : LH) (xs : List V) (ws : List Va) (Q : VK), Rel X.K X.mg H al T L → RVs X (mask H (al ++ T)) al xs ws →
  FPost X Wx σ H al T L (g ws L) Q → r xs H Q
def eCallB (g : List Va → LH → Res Va) (fs : En → LH → Res (List Va)) : EF := fun env L => (fs env L).bind g
def fCallB (g : List Va → LH → Res Ob) (fs : En → LH → Res (List Va)) : En → LH → Res Ob := fun env L => (fs env L).bind g
variable {x : Str} {p pos : Pos} {e : Expr} {es : List Expr} {fs : En → LH → Res (List Va)} {id T : String} {r : List V → Hp → VK → Prop}
theorem callB_core {g : List Va → LH → Res Va} {σ : St} {H : Hp} {Q : VK} (ok : OkC X r g) (h : Rdg X Wx (RV X) (eCallB g fs) σ H Q) : tCB r (Rdg X Wx (RVs X) fs) σ H Q := by
  obtain ⟨env, L, al, T, c, q⟩ := h
  exact rseq (R := RVs X) c q fun vs H1 ws L1 al1 c1 s1 r1 q1 => ok Wx σ H1 al1 T L1 vs ws Q c1.rel r1 q1
theorem callF_core {g : List Va → LH → Res Ob} {σ : St} {H : Hp} {Q : VK} (ok : OkCF X r g) (h : FRdg X Wx (fCallB g fs) σ H Q) : tCB r (Rdg X Wx (RVs X) fs) σ H Q := by
  obtain ⟨env, L, al, T, c, q⟩ := h
  exact fseq (R := RVs X) c q fun vs H1 ws L1 al1 c1 s1 r1 q1 => ok Wx σ H1 al1 T L1 vs ws Q c1.rel r1 q1
theorem se_callB {g : List Va → LH → Res Va} (hc : CallR X (.builtin id) r) (ok : OkC X r g) (hg : Gl X x) (hm : X.mg x = none) (hv : bootBuiltins x = some (.builtin id)) (ha : SA X Wx (e :: es) fs) (hn : x ≠ "__name__" := by decide) (hdb : (x == ("__debug__" : Str)) = false := by decide)
    (he : starEach (e :: es) X.env = (false, eval e X.env) :: starEach es X.env := by rfl) (hpl : (backTo pos (starEach es X.env)).any (·.1) = false := by rfl) : SE X Wx (.Call (.Name x p) (e :: es) [] pos) (eCallB g fs) :=
  PE.imp (pe_callB hc hg hm hv ha hn hdb he hpl) fun _ _ _ h => callB_core ok h
theorem se_callTy {g : List Va → LH → Res Va} (hc : CallR X (.type T) r) (ok : OkC X r g) (hg : Gl X x) (hm : X.mg x = none) (hv : bootBuiltins x = some (.type T)) (ha : SA X Wx (e :: es) fs) (hn : x ≠ "__name__" := by decide) (hdb : (x == ("__debug__" : Str)) = false := by decide)
    (he : starEach (e :: es) X.env = (false, eval e X.env) :: starEach es X.env := by rfl) (hpl : (backTo pos (starEach es X.env)).any (·.1) = false := by rfl) : SE X Wx (.Call (.Name x p) (e :: es) [] pos) (eCallB g fs) :=
  PE.imp (pe_callTy hc hg hm hv ha hn hdb he hpl) fun _ _ _ h => callB_core ok h
theorem sf_callTy {g : List Va → LH → Res Ob} (hc : CallR X (.type T) r) (ok : OkCF X r g) (hg : Gl X x) (hm : X.mg x = none) (hv : bootBuiltins x = some (.type T)) (ha : SA X Wx (e :: es) fs) (hn : x ≠ "__name__" := by decide) (hdb : (x == ("__debug__" : Str)) = false := by decide)
    (he : starEach (e :: es) X.env = (false, eval e X.env) :: starEach es X.env := by rfl) (hpl : (backTo pos (starEach es X.env)).any (·.1) = false := by rfl) : SF X Wx (.Call (.Name x p) (e :: es) [] pos) (fCallB g fs) :=
  PE.imp (pe_callTy hc hg hm hv ha hn hdb he hpl) fun _ _ _ h => callF_core ok h
theorem rps_1 {K : PySem.W.Frag} {mg : Str → Option Value} {M : Hp} {al : List Addr} {xs : List V} {w : Va} (h : Rps K mg M al xs [w]) : ∃ v, xs = [v] ∧ Rp K mg M al v w := by
  cases h with | cons a b => cases b; exact ⟨_, rfl, a⟩
theorem rps_2 {K : PySem.W.Frag} {mg : Str → Option Value} {M : Hp} {al : List Addr} {xs : List V} {w u : Va} (h : Rps K mg M al xs [w, u]) : ∃ v y, xs = [v, y] ∧ Rp K mg M al v w ∧ Rp K mg M al y u := by
  cases h with | cons a b => cases b with | cons c d => cases d; exact ⟨_, _, rfl, a, c⟩
def cLen : List Va → LH → Res Va := fun ws L => match ws with
  | [w] => match w with
    | .d (.str z) => if z.length ≤ sizeLine then .ok (.d (.int z.length)) L else .stuck
    | .dct ks => .ok (.d (.int ks.length)) L
    | w => match w.seq L with
      | some us => .ok (.d (.int us.length)) L
      | none => match w with
        | .loc n => match L[n]? with
          | some (some (.di ks)) => .ok (.d (.int ks.length)) L
          | _ => .stuck
        | _ => .stuck
  | _ => .stuck
abbrev rLenS (X : Cx) : List V → Hp → VK → Prop := fun xs H Q => ∃ x n, xs = [x] ∧ LenV X.K x H n ∧ Q (.int n) H
abbrev rLenD : List V → Hp → VK → Prop := fun xs H Q => ∃ a kvs, xs = [.ref a] ∧ H a = some (.dK kvs) ∧ Q (.int (kvs.length : Nat)) H
theorem call_lenDK : CallR X (.builtin "len") rLenD := by
  intro pins s σ H xs us Q I r h
  obtain ⟨a, kvs, rfl, e, q⟩ := h
  rw [Vals.ref1 r]
  exact d_len I (.inl e) fun t s' I' => ⟨.int _, H, I', ⟨t, rfl⟩, q⟩
theorem cr_len : CallR X (.builtin "len") (fun xs H Q => rLenS X xs H Q ∨ rLenD xs H Q) := CallR.or call_len call_lenDK
theorem ok_len : OkC X (fun xs H Q => rLenS X xs H Q ∨ rLenD xs H Q) cLen := by
  intro Wx σ H al T L xs ws Q r q h
  unfold cLen at h
  split at h
  · rename_i w
    obtain ⟨v, rfl, q1⟩ := rps_1 q
    split at h
    · rename_i z
      split at h
      · exact .inl ⟨v, z.length, rfl, by rw [dq_str (rp_d q1)]; exact ⟨by assumption, rfl⟩, gok r h (.d (.int _))⟩
      · exact h.elim
    · rename_i ks
      cases q1 with
      | @dct a kvs _ e1 e2 =>
        have l := Paired.length e2
        refine .inr ⟨a, kvs, rfl, (of_mask e1).2, ?_⟩
        rw [l]
        exact gok r h (.d (.int _))
    · split at h
      · rename_i us e
        obtain ⟨a, vs, rfl, sq, rr⟩ := seq_ok r q1 e
        have l := Paired.length rr
        refine .inl ⟨.ref a, us.length, rfl, ?_, gok r h (.d (.int _))⟩
        rcases sq with sq | sq
        · exact .inl ⟨vs, sq, l.symm⟩
        · exact .inr ⟨vs, sq, l.symm⟩
      · split at h
        · rename_i n _ _ _
          split at h
          · rename_i ks e1
            cases q1 with
            | @loc _ a e2 =>
              obtain ⟨a', e3, kvs, e4, e5⟩ := r.cell n _ e1
              rw [e2] at e3; cases e3
              have l := Paired.length e5
              refine .inr ⟨a, kvs, rfl, e4, ?_⟩
              rw [l]
              exact gok r h (.d (.int _))
          · exact h.elim
        · exact h.elim
  · exact h.elim
def Va.kind (L : LH) : Va → Option String
  | .d .none => some "NoneType"
  | .d (.bool _) => some "bool"
  | .d (.int _) => some "int"
  | .d (.str _) => some "str"
  | .d (.list _) => some "list"
  | .d (.tuple _) => some "tuple"
  | .d (.dict _) => some "dict"
  | .tup _ => some "tuple"
  | .dct _ => some "dict"
  | .loc n => match L[n]? with
    | some (some (.lst _)) => some "list"
    | some (some (.di _)) => some "dict"
    | some (some (.dt _)) => some "dict"
    | _ => none
  | _ => none
def isKind (a T : String) : Bool := a == T || (a == "bool" && T == "int")
def kinds : List String := ["NoneType", "bool", "int", "str", "list", "tuple", "dict"]
theorem kind_mem {L : LH} {w : Va} {k : String} (e : w.kind L = some k) : k ∈ kinds := by
  unfold Va.kind at e
  split at e <;> first | (cases e; decide) | (split at e <;> first | (cases e; decide) | cases e) | cases e
theorem kind_ok {K : PySem.W.Frag} {mg : Str → Option Value} {H : Hp} {al T : List Addr} {L : LH} (r : Rel K mg H al T L) {v : V} {w : Va} {k : String} (q : Rp K mg (mask H (al ++ T)) al v w) (e : w.kind L = some k) : TyX K H v (.type k) := by
  unfold Va.kind at e
  split at e
  · cases e; rw [dq_non (rp_d q)]; exact .base .non
  · cases e; rw [dq_bl (rp_d q)]; exact .base (.bl _)
  · cases e; rw [dq_int (rp_d q)]; exact .base (.int _)
  · cases e; rw [dq_str (rp_d q)]; exact .base (.str _)
  · cases e; obtain ⟨a, vs, rfl, e1, _⟩ := dq_lst (rp_d q); exact .base (.lst (of_mask e1).2)
  · cases e; obtain ⟨a, vs, rfl, e1, _⟩ := dq_tup (rp_d q); exact .base (.tup (of_mask e1).2)
  · exact nomatch (rp_d q)
  · cases e
    cases q with
    | tup e1 _ => exact .base (.tup (of_mask e1).2)
  · cases e
    cases q with
    | dct e1 _ => exact .base (.dK (of_mask e1).2)
  · rename_i n
    cases q with
    | @loc _ a e2 =>
      split at e
      · rename_i ws e1
        cases e
        obtain ⟨a', e3, kvs, e4, e5⟩ := r.cell n _ e1
        rw [e2] at e3; cases e3
        exact .base (.lst e4)
      · rename_i ws e1
        cases e
        obtain ⟨a', e3, kvs, e4, e5⟩ := r.cell n _ e1
        rw [e2] at e3; cases e3
        exact .base (.dK e4)
      · rename_i ws e1
        cases e
        obtain ⟨a', e3, kvs, e4, e5⟩ := r.cell n _ e1
        rw [e2] at e3; cases e3
        exact .base (.dT e4)
      · cases e
  · cases e
def eIsi (T : String) (f : EF) : EF := fun env L => (f env L).bind fun w L1 => match w.kind L1 with
  | some k => .ok (.d (.bool (isKind k T))) L1
  | none => .stuck
theorem se_isi {y : Str} {q : Pos} {f : EF} (hg : Gl X "isinstance") (hm : X.mg "isinstance" = none) (hg2 : Gl X y) (hm2 : X.mg y = none) (hv2 : bootBuiltins y = some (.type T)) (hk : ∀ k ∈ kinds, kitB k T = some (isKind k T)) (ha : SE X Wx e f)
    (hn2 : y ≠ "__name__" := by decide) (hd2 : (y == ("__debug__" : Str)) = false := by decide)
    (he : starEach (e :: [.Name y q]) X.env = (false, eval e X.env) :: starEach [.Name y q] X.env := by rfl) : SE X Wx (.Call (.Name "isinstance" p) [e, .Name y q] [] pos) (eIsi T f) := by
  refine PE.imp (pe_callB call_isi hg hm (by decide +kernel) (pa_cons ha (pa_cons (pe_bltn (v := .ty T) hg2 hm2 hv2 rfl hn2 hd2) pa_nil) he) (by decide) (by decide) he rfl) ?_
  rintro σ H Q ⟨env, L, al, T', c, h⟩
  refine rseq (R := RV X) c h fun v H1 w L1 al1 c1 s1 r1 q1 => ?_
  split at q1
  · rename_i k ek
    exact ⟨v, .ty T, .type k, .type T, isKind k T, rfl, .ty T, kind_ok c1.rel r1 ek, kit_ty (hk k (kind_mem ek)), gok c1.rel q1 (.d (.bl _))⟩
  · exact q1.elim
theorem kit_int : ∀ k ∈ kinds, kitB k "int" = some (isKind k "int") := by decide +kernel
theorem kit_bool : ∀ k ∈ kinds, kitB k "bool" = some (isKind k "bool") := by decide +kernel
theorem kit_tuple : ∀ k ∈ kinds, kitB k "tuple" = some (isKind k "tuple") := by decide +kernel
def boolsOf : List Va → Option (List Bool)
  | [] => some []
  | .d (.bool b) :: r => (boolsOf r).map (b :: ·)
  | _ :: _ => none
@[simp] theorem boolsOf_nil : boolsOf [] = some [] := (rfl)
@[simp] theorem boolsOf_map (bs : List Bool) : boolsOf (bs.map fun b => Va.d (.bool b)) = some bs := by
  induction bs with
  | nil => rfl
  | cons b r ih => simp only [List.map_cons, boolsOf, ih]; rfl
theorem bools_ok {K : PySem.W.Frag} {mg : Str → Option Value} {M : Hp} {al : List Addr} : ∀ {vs : List V} {ws : List Va} {bs : List Bool}, Rps K mg M al vs ws → boolsOf ws = some bs → vs = bs.map V.bl
  | _, _, bs, .nil, h => by cases h; rfl
  | _, .d (.bool b) :: ws, bs, .cons q r, h => by
    simp only [boolsOf] at h
    cases e : boolsOf ws with
    | none => rw [e] at h; cases h
    | some cs => rw [e] at h; cases h; rw [bools_ok r e, dq_bl (rp_d q)]; rfl
  | _, .d .none :: _, _, .cons _ _, h => by cases h
  | _, .d (.int _) :: _, _, .cons _ _, h => by cases h
  | _, .d (.str _) :: _, _, .cons _ _, h => by cases h
  | _, .d (.list _) :: _, _, .cons _ _, h => by cases h
  | _, .d (.tuple _) :: _, _, .cons _ _, h => by cases h
  | _, .d (.dict _) :: _, _, .cons _ _, h => by cases h
  | _, .loc _ :: _, _, .cons _ _, h => by cases h
  | _, .tup _ :: _, _, .cons _ _, h => by cases h
  | _, .dct _ :: _, _, .cons _ _, h => by cases h
  | _, .exc _ _ :: _, _, .cons _ _, h => by cases h
  | _, .scr _ :: _, _, .cons _ _, h => by cases h
def vaInts : List Va → Option (List Int)
  | [] => some []
  | .d (.int b) :: r => (vaInts r).map (b :: ·)
  | _ :: _ => none
@[simp] theorem vaInts_nil : vaInts [] = some [] := (rfl)
@[simp] theorem vaInts_map (bs : List Int) : vaInts (bs.map fun b => Va.d (.int b)) = some bs := by
  induction bs with
  | nil => rfl
  | cons b r ih => simp only [List.map_cons, vaInts, ih]; rfl
def one (ws : List Va) (L : LH) (k : List Va → Res Va) : Res Va := match ws with
  | [w] => match w.items L with
    | some us => k us
    | none => .stuck
  | _ => .stuck
theorem one_ok {H : Hp} {al T : List Addr} {L : LH} {σ : St} {xs : List V} {ws : List Va} {k : List Va → Res Va} {Q : VK} (r : Rel X.K X.mg H al T L) (q : RVs X (mask H (al ++ T)) al xs ws) (h : GPost X Wx σ H al T L (RV X) (one ws L k) Q) :
    ∃ a vs us, xs = [.ref a] ∧ H a = some (.lst vs) ∧ RVs X (mask H (al ++ T)) al vs us ∧ GPost X Wx σ H al T L (RV X) (k us) Q := by
  unfold one at h
  split at h
  · obtain ⟨v, rfl, q1⟩ := rps_1 q
    split at h
    · rename_i us e
      obtain ⟨a, vs, rfl, f1, d1⟩ := items_ok r q1 e
      exact ⟨a, vs, us, rfl, f1, d1, h⟩
    · exact h.elim
  · exact h.elim
def cAll : List Va → LH → Res Va := fun ws L => one ws L fun us => match boolsOf us with
  | some bs => .ok (.d (.bool (bs.all _root_.id))) L
  | none => .stuck
def minI : List Int → Option Int
  | [] => none
  | a :: r => some (r.foldl (fun m x => if x < m then x else m) a)
theorem ok_all : OkC X (rAll X.K) cAll := by
  intro Wx σ H al T L xs ws Q r q h
  obtain ⟨a, vs, us, rfl, f1, d1, h⟩ := one_ok r q h
  split at h
  · rename_i bs e
    have := bools_ok d1 e
    subst this
    exact ⟨a, bs, rfl, SqL.of f1, gok r h (.d (.bl _))⟩
  · exact h.elim
def cMin2 : List Va → LH → Res Va := fun ws L => match ws with
  | [.d (.int i), .d (.int j)] => .ok (.d (.int (if j < i then j else i))) L
  | _ => .stuck
def cMax2 : List Va → LH → Res Va := fun ws L => match ws with
  | [.d (.int i), .d (.int j)] => .ok (.d (.int (if j > i then j else i))) L
  | _ => .stuck
theorem ok_min2 : OkC X (fun xs H Q => ∃ i j, xs = [.int i, .int j] ∧ Q (.int (if j < i then j else i)) H) cMin2 := by
  intro Wx σ H al T L xs ws Q r q h
  unfold cMin2 at h
  split at h
  · obtain ⟨v, y, rfl, q1, q2⟩ := rps_2 q
    exact ⟨_, _, by rw [dq_int (rp_d q1), dq_int (rp_d q2)], gok r h (.d (.int _))⟩
  · exact h.elim
theorem ok_max2 : OkC X (fun xs H Q => ∃ i j, xs = [.int i, .int j] ∧ Q (.int (if j > i then j else i)) H) cMax2 := by
  intro Wx σ H al T L xs ws Q r q h
  unfold cMax2 at h
  split at h
  · obtain ⟨v, y, rfl, q1, q2⟩ := rps_2 q
    exact ⟨_, _, by rw [dq_int (rp_d q1), dq_int (rp_d q2)], gok r h (.d (.int _))⟩
  · exact h.elim
def cInt : List Va → LH → Res Va := fun ws L => match ws with
  | [.d (.int i)] => .ok (.d (.int i)) L
  | [.d (.bool b)] => .ok (.d (.int (if b then 1 else 0))) L
  | _ => .stuck
theorem ok_int : OkC X (fun xs H Q => (∃ i, xs = [.int i] ∧ Q (.int i) H) ∨ ∃ k, xs = [.bl k] ∧ Q (.int (if k then 1 else 0)) H) cInt := by
  intro Wx σ H al T L xs ws Q r q h
  unfold cInt at h
  split at h
  · obtain ⟨v, rfl, q1⟩ := rps_1 q
    exact .inl ⟨_, by rw [dq_int (rp_d q1)], gok r h (.d (.int _))⟩
  · obtain ⟨v, rfl, q1⟩ := rps_1 q
    exact .inr ⟨_, by rw [dq_bl (rp_d q1)], gok r h (.d (.int _))⟩
  · exact h.elim
def cStr : List Va → LH → Res Va := fun ws L => match ws with
  | [.d (.int i)] => if i.natAbs.log2 < 1920 then .ok (.d (.str (toString i))) L else .stuck
  | _ => .stuck
def cList : List Va → LH → Res Ob := fun ws L => match ws with
  | [w] => match w.seq L with
    | some us => .ok (.lst us) L
    | none => .stuck
  | _ => .stuck
theorem ok_list : OkCF X (fun xs H Q => ∃ p ys, xs = [.ref p] ∧ (SqL X.K H p ys ∨ SqT X.K H p ys) ∧ ∀ l, H l = none → Q (.ref l) (upd H l (.lst ys))) cList := by
  intro Wx σ H al T L xs ws Q r q h
  unfold cList at h
  split at h
  · obtain ⟨v, rfl, q1⟩ := rps_1 q
    split at h
    · rename_i us e
      obtain ⟨a, vs, rfl, sq, rr⟩ := seq_ok r q1 e
      exact ⟨a, vs, rfl, sq, fnew r h fun p hp e m => ⟨_, e, Rps.le m (ALe.refl _) rr⟩⟩
    · exact h.elim
  · exact h.elim
def cTuple : List Va → LH → Res Va := fun ws L => match ws with
  | [.d (.tuple xs)] => .ok (.d (.tuple xs)) L
  | [w] => match w.items L with
    | some us => .ok (mkTup us) L
    | none => .stuck
  | _ => .stuck
theorem ok_tuple : OkC X (fun xs H Q => ∃ p ys, xs = [.ref p] ∧ ((SqL X.K H p ys ∧ ∀ l, H l = none → Q (.ref l) (upd H l (.tup ys))) ∨ (SqT X.K H p ys ∧ Q (.ref p) H))) cTuple := by
  intro Wx σ H al T L xs ws Q r q h
  unfold cTuple at h
  split at h
  · obtain ⟨v, rfl, q1⟩ := rps_1 q
    obtain ⟨a, vs, rfl, e1, d1⟩ := dq_tup (rp_d q1)
    exact ⟨a, vs, rfl, .inr ⟨SqT.of (of_mask e1).2, gok r h q1⟩⟩
  · obtain ⟨v, rfl, q1⟩ := rps_1 q
    split at h
    · rename_i us e
      obtain ⟨a, vs, rfl, f1, d1⟩ := items_ok r q1 e
      exact ⟨a, vs, rfl, .inl ⟨SqL.of f1, gnew r h fun p hp e m e' => rp_mkTup e' (Rps.le m (ALe.refl _) d1)⟩⟩
    · exact h.elim
  · exact h.elim
def sortI (ns : List Int) : List Int := ns.mergeSort (fun a b => decide (a ≤ b))
theorem sortI_perm (ns : List Int) : (sortI ns).Perm ns := List.mergeSort_perm ns _
end
end L2.HW
namespace L2.HW
open PySem PySem.Spec PyProof.Rows
section
variable {K : PySem.W.Frag} {mg : Str → Option Value} {H : Hp} {al T : List Addr} {L : LH}
theorem mask_in {a : Addr} {o : HO} {P : List Addr} (h : a ∈ P) : mask (upd H a o) P = mask H P := by
  funext b
  unfold mask
  by_cases q : b ∈ P
  · rw [if_pos q, if_pos q]
  · rw [if_neg q, if_neg q, upd_ne]
    rintro rfl
    exact q h
theorem Rel.write (r : Rel K mg H al T L) {n : Nat} {a : Addr} {ob ob' : Ob} {o : HO} (e1 : al[n]? = some a) (e2 : L[n]? = some (some ob)) (q : ObR K mg (mask H (al ++ T)) al (upd H a o) a ob') : Stp K mg H al T L (upd H a o) al T (L.set n (some ob')) := by
  have ha : a ∈ al := List.mem_of_getElem? e1
  have m : mask (upd H a o) (al ++ T) = mask H (al ++ T) := mask_in (List.mem_append_left _ ha)
  have hn : n < L.length := (List.getElem?_eq_some_iff.mp e2).1
  refine ⟨⟨by simp [r.len], r.nd, r.dis, fun b h => ?_, fun k ob1 e => ?_⟩, ⟨[], by simp, fun _ z => nomatch z⟩, ⟨[], by simp, fun _ z => nomatch z⟩, fun b u e z => ?_, fun b e => ?_, fun k e => ?_, fun k ob1 e => ?_⟩
  · by_cases z : b = a
    · subst z; rw [upd_same]; simp
    · rw [upd_ne z]; exact r.trk b h
  · rw [m]
    by_cases z : k = n
    · subst z
      rw [List.getElem?_set_self hn] at e
      cases e
      exact ⟨a, e1, q⟩
    · rw [List.getElem?_set_ne (Ne.symm z)] at e
      obtain ⟨b, e3, q3⟩ := r.cell k ob1 e
      have : b ≠ a := by
        rintro rfl
        obtain ⟨h1, h2⟩ := List.getElem?_eq_some_iff.mp e1
        obtain ⟨h3, h4⟩ := List.getElem?_eq_some_iff.mp e3
        exact z ((List.getElem_inj r.nd).mp (h4.trans h2.symm))
      exact ⟨b, e3, ObR.le (Le.refl _) (ALe.refl _) (fun _ z => by rw [upd_ne this]; exact z) q3⟩
  · rw [upd_ne]
    · exact e
    · rintro rfl
      exact z ⟨n, ob, e1, e2⟩
  · by_cases z : b = a
    · subst z; rw [upd_same]; simp
    · rw [upd_ne z]; exact e
  · by_cases z : k = n
    · subst z; rw [e2] at e; cases e
    · rw [List.getElem?_set_ne (Ne.symm z)]; exact e
  · by_cases z : k = n
    · subst z; rw [List.getElem?_set_self hn]; exact ⟨_, rfl⟩
    · rw [List.getElem?_set_ne (Ne.symm z)]; exact ⟨_, e⟩
end
inductive Out where
  | nx (env : En) (L : LH)
  | rt (w : Va) (L : LH)
  | rf (o : Ob) (L : LH)
  | bk (env : En) (L : LH)
  | ct (env : En) (L : LH)
  | exc (c : Str) (f : Option PyData) (env : En) (L : LH)
  | stuck
def Res.then {α : Type} (r : Res α) (env : En) (k : α → LH → Out) : Out := match r with
  | .ok a L => k a L
  | .exc c f L => .exc c f env L
  | .stuck => .stuck
@[simp] theorem then_ok {α : Type} (a : α) (L : LH) (env : En) (k : α → LH → Out) : (Res.ok a L).then env k = k a L := (rfl)
@[simp] theorem then_exc {α : Type} (c : Str) (f : Option PyData) (L : LH) (env : En) (k : α → LH → Out) : (Res.exc c f L : Res α).then env k = .exc c f env L := (rfl)
@[simp] theorem then_stuck {α : Type} (env : En) (k : α → LH → Out) : (Res.stuck : Res α).then env k = .stuck := (rfl)
abbrev SFn := En → LH → Out
def SPost (X : Cx) (Wx : WX) (H : Hp) (al T : List Addr) (L : LH) (r : Out) (D : Ends) : Prop :=
  match r with
  | .nx env' L' => ∀ σ' H' al', Stp X.K X.mg H al T L H' al' T L' → Conf X.K X.mg σ' H' env' L' al' T → D.nx σ' H'
  | .rt w L' => ∀ v H' al', Stp X.K X.mg H al T L H' al' T L' → RV X (mask H' (al' ++ T)) al' v w → D.rt v H'
  | .rf o L' => ∀ a H' al', H a = none → Stp X.K X.mg H al T L H' al' (a :: T) L' → ObR X.K X.mg (mask H' (al' ++ (a :: T))) al' H' a o → D.rt (.ref a) H'
  | .bk env' L' => ∀ σ' H' al', Stp X.K X.mg H al T L H' al' T L' → Conf X.K X.mg σ' H' env' L' al' T → D.bk σ' H'
  | .ct env' L' => ∀ σ' H' al', Stp X.K X.mg H al T L H' al' T L' → Conf X.K X.mg σ' H' env' L' al' T → D.ct σ' H'
  | .exc c f env' L' => ∀ cls d σ' H' al', Stp X.K X.mg H al T L H' al' T L' → Conf X.K X.mg σ' H' env' L' al' T → ExR X.mg (mask H' (al' ++ T)) c f cls d → Wx cls d σ' H'
  | .stuck => False
def SRdg (X : Cx) (Wx : WX) (f : SFn) : TS := fun D σ H => ∃ env L al T, Conf X.K X.mg σ H env L al T ∧ SPost X Wx H al T L (f env L) D
def SS (X : Cx) (Wx : WX) (st : Stmt) (f : SFn) : Prop := PS X st (SRdg X Wx f)
def SB (X : Cx) (Wx : WX) (st : List Stmt) (f : SFn) : Prop := PSs X st (SRdg X Wx f)
section
variable {X : Cx} {Wx : WX} {σ : St} {H H1 : Hp} {al al1 T : List Addr} {L L1 : LH}
theorem Stp.back {K : PySem.W.Frag} {mg : Str → Option Value} {T1 : List Addr} (s : Stp K mg H al T L H1 al1 T1 L1) {b : Addr} (h : H1 b = none) : H b = none := by
  cases e : H b with
  | none => rfl
  | some o => exact absurd h (s.stay b (by rw [e]; simp))
theorem SPost.on (hl : al.length = L.length) (s : Stp X.K X.mg H al T L H1 al1 T L1) {r : Out} {D : Ends} (h : SPost X Wx H al T L r D) : SPost X Wx H1 al1 T L1 r D := by
  cases r with
  | nx env' L' => exact fun σ' H' al' t c => h σ' H' al' (Stp.trans hl s t) c
  | rt w L' => exact fun v H' al' t c => h v H' al' (Stp.trans hl s t) c
  | rf o L' => exact fun a H' al' ha t c => h a H' al' (s.back ha) (Stp.trans hl s t) c
  | bk env' L' => exact fun σ' H' al' t c => h σ' H' al' (Stp.trans hl s t) c
  | ct env' L' => exact fun σ' H' al' t c => h σ' H' al' (Stp.trans hl s t) c
  | exc c f env' L' => exact fun cls d σ' H' al' t c => h cls d σ' H' al' (Stp.trans hl s t) c
  | stuck => exact h
theorem sseq {α β : Type} {R : Hp → List Addr → β → α → Prop} {env : En} {f : En → LH → Res α} {k : α → LH → Out} {D : Ends} {Q' : β → Hp → Prop}
    (c : Conf X.K X.mg σ H env L al T) (h : SPost X Wx H al T L ((f env L).then env k) D)
    (hk : ∀ b H1 a L1 al1, Conf X.K X.mg σ H1 env L1 al1 T → Stp X.K X.mg H al T L H1 al1 T L1 → R (mask H1 (al1 ++ T)) al1 b a → SPost X Wx H1 al1 T L1 (k a L1) D → Q' b H1) : Rdg X Wx R f σ H Q' := by
  refine ⟨env, L, al, T, c, ?_⟩
  revert h
  generalize f env L = r
  intro g
  cases r with
  | stuck => exact g
  | exc c' f L1 => exact fun cls d H' al' s e => g cls d σ H' al' s (c.stp s) e
  | ok b L1 => exact fun b' H1 al1 s1 q1 => hk b' H1 b L1 al1 (c.stp s1) s1 q1 (SPost.on c.rel.len s1 g)
theorem sok (c : Conf X.K X.mg σ H env L al T) {D : Ends} (h : SPost X Wx H al T L (.nx env L) D) : D.nx σ H := h σ H al (Stp.refl c.rel) c
def sNil : SFn := fun env L => .nx env L
def sSeq (f g : SFn) : SFn := fun env L => match f env L with
  | .nx env1 L1 => g env1 L1
  | o => o
theorem sb_nil : SB X Wx [] sNil := PSs.imp pss_nil fun D σ H ⟨env, L, al, T, c, h⟩ => sok c h
theorem sb_cons {st : Stmt} {rest : List Stmt} {f g : SFn} (h1 : SS X Wx st f) (h2 : SB X Wx rest g) : SB X Wx (st :: rest) (sSeq f g) := by
  refine PSs.imp (pss_cons h1 h2) ?_
  rintro D σ H ⟨env, L, al, T, c, h⟩
  refine ⟨env, L, al, T, c, ?_⟩
  unfold sSeq at h
  revert h
  generalize f env L = r
  intro h
  cases r with
  | nx env1 L1 => exact fun σ' H' al' s c' => ⟨env1, L1, al', T, c', SPost.on c.rel.len s h⟩
  | rt w L' => exact h
  | rf o L' => exact h
  | bk env' L' => exact h
  | ct env' L' => exact h
  | exc c' f' env' L' => exact h
  | stuck => exact h
theorem sb_one {st : Stmt} {f : SFn} (h1 : SS X Wx st f) : SB X Wx [st] f := PSs.imp (pss_one h1) fun D σ H h => h
def sPass : SFn := sNil
def sBreak : SFn := fun env L => .bk env L
def sCont : SFn := fun env L => .ct env L
def sExpr (f : EF) : SFn := fun env L => (f env L).then env fun _ L1 => .nx env L1
theorem ss_expr {e : Expr} {pos : Pos} {f : EF} (he : SE X Wx e f) (hs : swapsWith e none pos.line X.env = pure false := by rfl) : SS X Wx (.Expr e pos) (sExpr f) := by
  refine PS.imp (ps_expr he hs) ?_
  rintro D σ H ⟨env, L, al, T, c, h⟩
  exact sseq (R := RV X) c h fun v H1 w L1 al1 c1 s1 r1 h1 => sok c1 h1
def sRet (f : EF) : SFn := fun env L => (f env L).then env fun w L1 => .rt w L1
theorem ss_ret {e : Expr} {pos : Pos} {f : EF} (he : SE X Wx e f) : SS X Wx (.Return (some e) pos) (sRet f) := by
  refine PS.imp (ps_ret he) ?_
  rintro D σ H ⟨env, L, al, T, c, h⟩
  exact sseq (R := RV X) c h fun v H1 w L1 al1 c1 s1 r1 h1 => h1 v H1 al1 (Stp.refl c1.rel) r1
def sRetN : SFn := fun _ L => .rt (.d .none) L
def sRetF (g : En → LH → Res Ob) : SFn := fun env L => (g env L).then env fun o L1 => .rf o L1
theorem ss_retF {e : Expr} {pos : Pos} {g : En → LH → Res Ob} (he : SF X Wx e g) : SS X Wx (.Return (some e) pos) (sRetF g) := by
  refine PS.imp (ps_ret he) ?_
  rintro D σ H ⟨env, L, al, T, c, h⟩
  refine ⟨env, L, al, T, c, ?_⟩
  unfold sRetF at h
  revert h
  generalize g env L = r
  intro h
  cases r with
  | stuck => exact h
  | exc c' f L1 => exact fun cls d H' al' s e => h cls d σ H' al' s (c.stp s) e
  | ok o L1 => exact h
def sIf (t : En → LH → Res Bool) (f g : SFn) : SFn := fun env L => (t env L).then env fun b L1 => if b then f env L1 else g env L1
theorem ss_if {e : Expr} {a b : List Stmt} {pos : Pos} {t : En → LH → Res Bool} {f g : SFn} (ht : ST X Wx e t) (ha : SB X Wx a f) (hb : SB X Wx b g) : SS X Wx (.If e a b pos) (sIf t f g) := by
  refine PS.imp (ps_if ht ha hb) ?_
  rintro D σ H ⟨env, L, al, T, c, h⟩
  refine sseq (R := RB) c h fun v H1 w L1 al1 c1 s1 r1 h1 => ?_
  obtain rfl : v = w := r1
  cases v with
  | true => exact ⟨env, L1, al1, T, c1, h1⟩
  | false => exact ⟨env, L1, al1, T, c1, h1⟩
def sSet (i : Nat) (f : EF) : SFn := fun env L => (f env L).then env fun w L1 => .nx (env.set i (some w)) L1
theorem ss_set {i : Nat} {x : Str} {e : Expr} {pos pos' : Pos} {f : EF} (hN : X.N.Nodup) (hi : X.N[i]? = some x) (hx : Loc X.env.scope x) (he : SE X Wx e f) (hs : swapsWith e (some (.Name x pos')) pos.line X.env = pure false := by rfl)
    (hf : X.fn x = true ∨ X.env.scope.names.lookup x = some .local := by first | exact .inl rfl | exact .inr rfl | assumption) : SS X Wx (.Assign [.Name x pos'] e pos) (sSet i f) := by
  refine PS.imp (ps_set hN hi hx he hs hf) ?_
  rintro D σ H ⟨env, L, al, T, c, h⟩
  exact sseq (R := RV X) c h fun v H1 w L1 al1 c1 s1 r1 h1 => sok (c1.put r1) (SPost.on c1.rel.len (Stp.refl c1.rel) h1)
def sAug (i : Nat) (g : Int → Int → Int) (f : EF) : SFn := fun env L => match env[i]? with
  | some (some (.d (.int a))) => (f env L).then env fun w L1 => match w with
    | .d (.int b) => .nx (env.set i (some (.d (.int (g a b))))) L1
    | _ => .stuck
  | _ => .stuck
def TPost (X : Cx) (sl : List Nat) (σ : St) (H : Hp) (al T : List Addr) (L : LH) (r : Res En) (Q : St → Hp → Prop) : Prop := match r with
  | .ok env' L' => ∀ σ' H' al', Stp X.K X.mg H al T L H' al' T L' → Conf X.K X.mg σ' H' env' L' al' T → Agr sl σ σ' → Q σ' H'
  | _ => False
def SG (X : Cx) (sl : List Nat) (tg : Expr) (g : Va → En → LH → Res En) : Prop := PG X tg fun v σ H Q => ∃ w env L al T, Conf X.K X.mg σ H env L al T ∧ RV X (mask H (al ++ T)) al v w ∧ TPost X sl σ H al T L (g w env L) Q
def SGs (X : Cx) (sl : List Nat) (ts : List Expr) (g : List Va → En → LH → Res En) : Prop := PGs X ts fun vs σ H Q => ∃ ws env L al T, Conf X.K X.mg σ H env L al T ∧ RVs X (mask H (al ++ T)) al vs ws ∧ TPost X sl σ H al T L (g ws env L) Q
theorem PG.imp {tg : Expr} {t t' : TG} (h : PG X tg t) (k : ∀ v σ H Q, t' v σ H Q → t v σ H Q) : PG X tg t' := ⟨fun pins s σ H v u Q I r q => h.run pins s σ H v u Q I r (k v σ H Q q)⟩
theorem PGs.imp {tg : List Expr} {t t' : TGs} (h : PGs X tg t) (k : ∀ v σ H Q, t' v σ H Q → t v σ H Q) : PGs X tg t' := ⟨fun pins s σ H v u Q I r q => h.run pins s σ H v u Q I r (k v σ H Q q)⟩
theorem PG.or {tg : Expr} {t u : TG} (h : PG X tg t) (k : PG X tg u) : PG X tg (fun v σ H Q => t v σ H Q ∨ u v σ H Q) := ⟨fun pins s σ H v w Q I r q => by
  rcases q with q | q
  · exact h.run pins s σ H v w Q I r q
  · exact k.run pins s σ H v w Q I r q⟩
theorem TPost.on (hl : al.length = L.length) (s : Stp X.K X.mg H al T L H1 al1 T L1) {sl : List Nat} {r : Res En} {Q : St → Hp → Prop} (h : TPost X sl σ H al T L r Q) : TPost X sl σ H1 al1 T L1 r Q := by
  cases r with
  | ok env' L' => exact fun σ' H' al' t c => h σ' H' al' (Stp.trans hl s t) c
  | exc c f L' => exact h
  | stuck => exact h
def tN (i : Nat) : Va → En → LH → Res En := fun w env L => .ok (env.set i (some w)) L
theorem sg_name {i : Nat} {x : Str} {pos : Pos} (hN : X.N.Nodup) (hi : X.N[i]? = some x) (hx : Loc X.env.scope x) (hf : X.fn x = true ∨ X.env.scope.names.lookup x = some .local := by first | exact .inl rfl | exact .inr rfl | assumption) : SG X [i] (.Name x pos) (tN i) :=
  PG.imp (pg_name hN hi hx hf) fun v σ H Q ⟨w, env, L, al, T, c, r, h⟩ => h _ H al (Stp.refl c.rel) (c.put r) (Agr.put i _ σ)
def tgNil : List Va → En → LH → Res En := fun ws env L => match ws with
  | [] => .ok env L
  | _ => .stuck
def tgCons (f : Va → En → LH → Res En) (g : List Va → En → LH → Res En) : List Va → En → LH → Res En := fun ws env L => match ws with
  | w :: r => (f w env L).bind fun env1 L1 => g r env1 L1
  | [] => .stuck
theorem sgs_nil : SGs X [] [] tgNil := PGs.imp pgs_nil fun v σ H Q ⟨w, env, L, al, T, c, r, h⟩ => by
  unfold tgNil at h
  split at h
  · cases r
    exact ⟨rfl, h _ H al (Stp.refl c.rel) c (Agr.refl _ _)⟩
  · exact h.elim
theorem sgs_cons {e : Expr} {es : List Expr} {f : Va → En → LH → Res En} {g : List Va → En → LH → Res En} {sl sl' : List Nat} (h1 : SG X sl e f) (h2 : SGs X sl' es g) (hs : (assignEach (e :: es) X.env).map (·.2) = assign e X.env :: (assignEach es X.env).map (·.2) := by rfl) : SGs X (sl ++ sl') (e :: es) (tgCons f g) :=
  PGs.imp (pgs_cons h1 h2 hs) fun vs σ H Q ⟨ws, env, L, al, T, c, r, h⟩ => by
    unfold tgCons at h
    split at h
    · rename_i w rest
      cases r with
      | cons ra rb =>
        refine ⟨_, _, rfl, w, env, L, al, T, c, ra, ?_⟩
        revert h
        generalize f w env L = r1
        intro h
        cases r1 with
        | ok env1 L1 =>
          intro σ' H' al' s c' ag
          refine ⟨rest, env1, L1, al', T, c', s.rps rb, ?_⟩
          have h := TPost.on c.rel.len s h
          revert h
          show TPost X (sl ++ sl') σ H' al' T L1 (g rest env1 L1) Q → TPost X sl' σ' H' al' T L1 (g rest env1 L1) Q
          generalize g rest env1 L1 = r2
          intro h
          cases r2 with
          | ok env2 L2 => exact fun σ2 H2 al2 s2 c2 ag2 => h σ2 H2 al2 s2 c2 (ag.trans ag2)
          | exc _ _ _ => exact h
          | stuck => exact h
        | exc _ _ _ => exact h
        | stuck => exact h
    · exact h.elim
def tTupT (n : Nat) (g : List Va → En → LH → Res En) : Va → En → LH → Res En := fun w env L => match w.seq L with
  | some ws => if ws.length = n then g ws env L else .stuck
  | none => .stuck
theorem sg_tup {es : List Expr} {k : Nat} {pos : Pos} {g : List Va → En → LH → Res En} {n : Nat} {sl : List Nat} (hc : X.calm = true) (h : SGs X sl es g) (hn : (assignEach es X.env).length = n := by rfl) (hst : (assignEach es X.env).findIdx? (·.1) = none := by rfl) : SG X sl (.Tuple es k pos) (tTupT n g) :=
  PG.imp (PG.or (pg_tup hc h hn hst) (pg_lst hc h hn hst)) fun v σ H Q ⟨w, env, L, al, T, c, r, q⟩ => by
    unfold tTupT at q
    split at q
    · rename_i ws e
      obtain ⟨a, vs, rfl, sq, rr⟩ := seq_ok c.rel r e
      have l := Paired.length rr
      split at q
      · rename_i hl
        rcases sq with sq | sq
        · exact .inr ⟨a, vs, rfl, sq, l.trans hl, ws, env, L, al, T, c, rr, q⟩
        · exact .inl ⟨a, vs, rfl, sq, l.trans hl, ws, env, L, al, T, c, rr, q⟩
      · exact q.elim
    · exact q.elim
def sAsg (f : EF) (g : Va → En → LH → Res En) : SFn := fun env L => (f env L).then env fun w L1 => match g w env L1 with
  | .ok env1 L2 => .nx env1 L2
  | _ => .stuck
theorem ss_asg {tg e : Expr} {pos : Pos} {f : EF} {g : Va → En → LH → Res En} {sl : List Nat} (he : SE X Wx e f) (hg : SG X sl tg g) (hs : swapsWithSole [tg] e pos.line X.env = pure false := by rfl) (hw : swappedStores [tg] e X.env = pure none := by rfl)
    (h1 : (assignEach [tg] X.env).map (·.2) = [assign tg X.env] := by rfl) : SS X Wx (.Assign [tg] e pos) (sAsg f g) := by
  refine PS.imp (ps_asg he hg hs hw h1) ?_
  rintro D σ H ⟨env, L, al, T, c, h⟩
  refine sseq (R := RV X) c h fun v H1 w L1 al1 c1 s1 r1 h2 => ?_
  refine ⟨w, env, L1, al1, T, c1, r1, ?_⟩
  revert h2
  generalize g w env L1 = r2
  intro h2
  cases r2 with
  | ok env1 L2 => exact fun σ' H' al' s c' _ => h2 σ' H' al' s c'
  | exc _ _ _ => exact h2
  | stuck => exact h2
def sPar (i j : Nat) (fs : En → LH → Res (List Va)) : SFn := fun env L => (fs env L).then env fun ws L1 => match ws with
  | [w, u] => .nx ((env.set i (some w)).set j (some u)) L1
  | _ => .stuck
theorem ss_par {i j : Nat} {x y : Str} {a b : Expr} {px py pt pos : Pos} {kt : Nat} {k2 : Nat} {pt2 : Pos} {fs : En → LH → Res (List Va)} (hc : X.calm = true) (hN : X.N.Nodup) (hi : X.N[i]? = some x) (hj : X.N[j]? = some y) (hij : i ≠ j)
    (hx : X.env.scope.names.lookup x = some .local) (hy : X.env.scope.names.lookup y = some .local) (ha : SA X Wx [a, b] fs)
    (hw : swappedStores [.Tuple [.Name x px, .Name y py] kt pt] (.Tuple [a, b] k2 pt2) X.env = pure (some [x, y]))
    (hs : swapsWithSole [.Tuple [.Name x px, .Name y py] kt pt] (.Tuple [a, b] k2 pt2) pos.line X.env = pure false := by rfl) :
    SS X Wx (.Assign [.Tuple [.Name x px, .Name y py] kt pt] (.Tuple [a, b] k2 pt2) pos) (sPar i j fs) := by
  refine PS.imp (ps_par hc hN hi hj hij hx hy ha hw hs) ?_
  rintro D σ H ⟨env, L, al, T, c, h⟩
  refine sseq (R := RVs X) c h fun v H1 w L1 al1 c1 s1 r1 h2 => ?_
  split at h2
  · obtain ⟨v, y, rfl, q1, q2⟩ := rps_2 r1
    exact ⟨v, y, rfl, sok ((c1.put q1).put q2) (SPost.on c1.rel.len (Stp.refl c1.rel) h2)⟩
  · exact h2.elim
def sPar3 (i j k : Nat) (fs : En → LH → Res (List Va)) : SFn := fun env L => (fs env L).then env fun ws L1 => match ws with
  | [w, u, z] => .nx (((env.set i (some w)).set j (some u)).set k (some z)) L1
  | _ => .stuck
def tIx (f g : EF) : Va → En → LH → Res En := fun v env L => (f env L).bind fun w L1 => (g env L1).bind fun u L2 => match w with
  | .loc n => match L2[n]?, u with
    | some (some (.lst ws)), .d (.int i) => match ixN ws.length i with
      | some j => .ok env (L2.set n (some (.lst (ws.set j v))))
      | none => .stuck
    | some (some (.di ks)), .d (.int i) => if ks.length < sizeLine then .ok env (L2.set n (some (.di (aput ks i v)))) else .stuck
    | some (some (.di [])), .d (.tuple xs) => match intsOf xs with
      | some ns => .ok env (L2.set n (some (.dt [(ns, v)])))
      | none => .stuck
    | some (some (.dt ks)), .d (.tuple xs) => match intsOf xs with
      | some ns => if ks.length < sizeLine then .ok env (L2.set n (some (.dt (aput ks ns v)))) else .stuck
      | none => .stuck
    | _, _ => .stuck
  | _ => .stuck
where
  aput {κ α : Type} [DecidableEq κ] (ks : List (κ × α)) (k : κ) (v : α) : List (κ × α) := if ks.any (fun kv => decide (kv.1 = k)) then ks.map (fun kv => if kv.1 = k then (kv.1, v) else kv) else ks ++ [(k, v)]
end
end L2.HW
namespace L2.HW
open PySem PySem.Spec PyProof.Rows
section
variable {X : Cx} {Wx : WX}
abbrev aput {κ α : Type} [DecidableEq κ] (ks : List (κ × α)) (k : κ) (v : α) : List (κ × α) := tIx.aput ks k v
theorem PSet.or {t u : TSet} (h : PSet X t) (k : PSet X u) : PSet X (fun o i v H Q => t o i v H Q ∨ u o i v H Q) := by
  intro pins s σ H o i v ov iv w Q I r1 r2 r3 q
  rcases q with q | q
  · exact h pins s σ H o i v ov iv w Q I r1 r2 r3 q
  · exact k pins s σ H o i v ov iv w Q I r1 r2 r3 q
def rSetD : TSet := fun o i v H Q => ∃ a H', o = .ref a ∧ DPut H a i v H' ∧ Q H'
theorem set_dict (hu : X.A.units + 1 < cLine) : PSet X rSetD := by
  intro pins s σ H o i v ov iv u Q I ro ri rv h
  obtain ⟨a, H', rfl, g, q⟩ := h
  obtain rfl : ov = Value.ref a := ro
  exact d_setItem hu I g ri rv fun s' I' => ⟨H', I', q⟩
def rSetD0 : TSet := fun o i v H Q => ∃ a b k, o = .ref a ∧ i = .ref b ∧ H a = some (.dK []) ∧ H b = some (.tup (k.map kV)) ∧ Q (upd H a (.dT [(k, v)]))
theorem set_dict0 (hu : X.A.units + 1 < cLine) : PSet X rSetD0 := by
  intro pins s σ H o i v ov iv u Q I ro ri rv h
  obtain ⟨a, b, k, rfl, rfl, h1, h2, q⟩ := h
  obtain rfl : ov = Value.ref a := ro
  obtain ⟨z, y, vs, rk, ob, es, ep, e1, e2, e3, e4, e5, e6⟩ := dk_of I.hok h1
  have hvs : vs = [] := by cases rk; rfl
  subst hvs
  have hes : es.toList = [] := by
    generalize es.toList = el at e5
    cases e5
    rfl
  have I' : Inv X pins σ (upd H a (.dT [])) s := I.write (t' := s.toks) (h' := s.heap) (by rw [h1]; trivial) (.inl rfl) (fun _ _ _ e => e) ⟨_, e1⟩
    ⟨Nat.zero_le _, y, [], .nil, ob, es, ep, e1, e2, e3, by rw [hes]; rfl, List.nodup_nil⟩
  have g : DPut (upd H a (.dT [])) a (.ref b) v (upd (upd H a (.dT [])) a (.dT (putK [] k v))) := DPut.t upd_same (by
    rw [upd_ne]
    · exact h2
    · rintro rfl; rw [h1] at h2; cases h2) (by rw [sizeLine_eq]; decide)
  refine d_setItem hu I' g ri rv fun s' I2 => ⟨_, I2, ?_⟩
  rw [upd_upd]
  exact q
theorem rps_set {K : PySem.W.Frag} {mg : Str → Option Value} {M : Hp} {al : List Addr} {v : V} {w : Va} (q : Rp K mg M al v w) : ∀ {vs : List V} {ws : List Va} (n : Nat), Rps K mg M al vs ws → Rps K mg M al (vs.set n v) (ws.set n w)
  | _, _, _, .nil => .nil
  | _, _, 0, .cons _ b => .cons q b
  | _, _, n + 1, .cons a b => .cons a (rps_set q n b)
theorem put_pair {κ κ' α : Type} [DecidableEq κ] [DecidableEq κ'] {f : κ → κ'} (hf : ∀ a b, f a = f b → a = b) {R : V → α → Prop} {ks : List (κ' × V)} {as : List (κ × α)} (r : Paired (fun (p : κ' × V) (q : κ × α) => p.1 = f q.1 ∧ R p.2 q.2) ks as) (k : κ) {v : V} {w : α} (q : R v w) :
    Paired (fun (p : κ' × V) (q : κ × α) => p.1 = f q.1 ∧ R p.2 q.2) (putK ks (f k) v) (aput as k w) := by
  have hany : (ks.any fun kv => decide (kv.1 = f k)) = as.any fun kv => decide (kv.1 = k) := by
    induction r with
    | nil => rfl
    | @cons p q ps qs h _ ih =>
      rw [List.any_cons, List.any_cons, ih]
      congr 1
      rw [h.1]
      by_cases e : q.1 = k
      · simp [e]
      · have e' : ¬ f q.1 = f k := fun z => e (hf _ _ z)
        rw [decide_eq_false e, decide_eq_false e']
  unfold putK aput tIx.aput
  rw [hany]
  by_cases c : (as.any fun kv => decide (kv.1 = k)) = true
  · rw [if_pos c, if_pos c]
    clear hany c
    induction r with
    | nil => exact .nil
    | @cons p q' ps qs h _ ih =>
      refine .cons ?_ ih
      show ((if p.1 = f k then (p.1, v) else p).1 = f (if q'.1 = k then (q'.1, w) else q').1 ∧ R (if p.1 = f k then (p.1, v) else p).2 (if q'.1 = k then (q'.1, w) else q').2)
      by_cases e : q'.1 = k
      · rw [if_pos e, if_pos (by rw [h.1, e])]
        exact ⟨by rw [h.1], q⟩
      · rw [if_neg e, if_neg (by rw [h.1]; exact fun z => e (hf _ _ z))]
        exact h
  · rw [if_neg c, if_neg c]
    clear hany c
    induction r with
    | nil => exact .cons ⟨rfl, q⟩ .nil
    | cons h _ ih => exact .cons h ih
theorem sg_ix {o i : Expr} {f g : EF} {pos : Pos} (hu : X.A.units + 1 < cLine) (ho : SE X (fun _ _ _ _ => False) o f) (hi : SE X (fun _ _ _ _ => False) i g)
    (ha : ∀ v, assign (.Subscript o i pos) X.env v = (do
      let ov ← holding [v] (eval o X.env)
      let iv ← holding [v, ov] (eval i X.env)
      standAt pos
      holding [v, ov, iv] (setItem ov iv v)
      release [v, ov, iv] []) := by intro _; rfl) : SG X [] (.Subscript o i pos) (tIx f g) := by
  refine PG.imp (pg_sub ho hi (PSet.or set_list (PSet.or (set_dict hu) (set_dict0 hu))) ha) ?_
  rintro v σ H Q ⟨w, env, L, al, T, c, r, h⟩
  unfold tIx at h
  have e1 : GPost X (fun _ _ _ _ => False) σ H al T L (RV X) (f env L) fun o H1 => Rdg X (fun _ _ _ _ => False) (RV X) g σ H1 fun i H2 => (fun o i v H Q => rSetL o i v H Q ∨ rSetD o i v H Q ∨ rSetD0 o i v H Q) o i v H2 fun H3 => Q σ H3 := by
    revert h
    generalize f env L = r1
    intro h
    cases r1 with
    | stuck => exact h
    | exc _ _ _ => exact h.elim
    | ok wo L1 =>
      intro ov H1 al1 s1 ro
      have c1 := c.stp s1
      refine ⟨env, L1, al1, T, c1, ?_⟩
      simp only [Res.bind_ok] at h
      revert h
      generalize g env L1 = r2
      intro h
      cases r2 with
      | stuck => exact h
      | exc _ _ _ => exact h.elim
      | ok wi L2 =>
        intro iv H2 al2 s2 ri
        have c2 := c1.stp s2
        have s12 := Stp.trans c.rel.len s1 s2
        have rv := s12.rp r
        have ro2 := s2.rp ro
        have h3 := TPost.on c.rel.len s12 h
        clear h
        simp only [Res.bind_ok] at h3
        split at h3
        · rename_i n
          cases ro2 with
          | @loc _ a e2 =>
            split at h3
            · rename_i ws i e4
              have ei := dq_int (rp_d ri)
              obtain ⟨a', e3, vs, e5, e6⟩ := c2.rel.cell n _ e4
              rw [e2] at e3; cases e3
              split at h3
              · rename_i j ej
                have st := c2.rel.write (o := .lst (vs.set j v)) (ob' := .lst (ws.set j w)) e2 e4 ⟨_, upd_same, rps_set rv j e6⟩
                exact .inl ⟨a, vs, i, j, rfl, ei, e5, by rw [Paired.length e6]; exact ej, h3 _ _ _ st (c2.stp st) (Agr.refl _ _)⟩
              · exact h3.elim
            · rename_i ks i e4
              have ei := dq_int (rp_d ri)
              obtain ⟨a', e3, vs, e5, e6⟩ := c2.rel.cell n _ e4
              rw [e2] at e3; cases e3
              split at h3
              · rename_i hl
                have st := c2.rel.write (o := .dK (putK vs (Sum.inl i) v)) (ob' := .di (aput ks i w)) e2 e4 ⟨_, upd_same, put_pair (f := (Sum.inl : Int → Key)) inl_inj e6 i rv⟩
                exact .inr (.inl ⟨a, _, rfl, by rw [ei]; exact DPut.k (k := Sum.inl i) e5 (by rw [Paired.length e6]; exact hl), h3 _ _ _ st (c2.stp st) (Agr.refl _ _)⟩)
              · exact h3.elim
            · rename_i xs e4
              obtain ⟨a', e3, vs, e5, e6⟩ := c2.rel.cell n _ e4
              rw [e2] at e3; cases e3
              cases e6
              split at h3
              · rename_i ns en
                rw [intsOf_eq en] at ri
                obtain ⟨b, us, rfl, f1, d1⟩ := dq_tup (rp_d ri)
                have g1 := dq_ints d1
                subst g1
                have st := c2.rel.write (o := .dT [(ns.map Sum.inl, v)]) (ob' := .dt [(ns, w)]) e2 e4 ⟨_, upd_same, .cons ⟨rfl, rv⟩ .nil⟩
                exact .inr (.inr ⟨a, b, ns.map Sum.inl, rfl, rfl, e5, by rw [List.map_map]; exact (of_mask f1).2, h3 _ _ _ st (c2.stp st) (Agr.refl _ _)⟩)
              · exact h3.elim
            · rename_i ks xs e4
              obtain ⟨a', e3, vs, e5, e6⟩ := c2.rel.cell n _ e4
              rw [e2] at e3; cases e3
              split at h3
              · rename_i ns en
                rw [intsOf_eq en] at ri
                obtain ⟨b, us, rfl, f1, d1⟩ := dq_tup (rp_d ri)
                have g1 := dq_ints d1
                subst g1
                split at h3
                · rename_i hl
                  have st := c2.rel.write (o := .dT (putK vs (ns.map Sum.inl) v)) (ob' := .dt (aput ks ns w)) e2 e4 ⟨_, upd_same, put_pair (f := fun ns : List Int => ns.map (Sum.inl : Int → Key)) map_inl_inj e6 ns rv⟩
                  exact .inr (.inl ⟨a, _, rfl, DPut.t (k := ns.map Sum.inl) e5 (by rw [List.map_map]; exact (of_mask f1).2) (by rw [Paired.length e6]; exact hl), h3 _ _ _ st (c2.stp st) (Agr.refl _ _)⟩)
                · exact h3.elim
              · exact h3.elim
            · exact h3.elim
        · exact h3.elim
  exact ⟨env, L, al, T, c, e1⟩
end
end L2.HW
namespace L2.HW
open PySem PySem.Spec PyProof.Rows
section
variable {K : PySem.W.Frag} {mg : Str → Option Value} {H H1 : Hp} {al al1 T T1 : List Addr} {L L1 : LH}
def lockL (lk : Option Nat) (L : LH) : LH := match lk with
  | some n => L.set n none
  | none => L
def openL (lk : Option Nat) (L0 L : LH) : LH := match lk with
  | some n => match L0[n]? with
    | some c => L.set n c
    | none => L
  | none => L
@[simp] theorem lockL_none (L : LH) : lockL none L = L := (rfl)
@[simp] theorem openL_none (L0 L : LH) : openL none L0 L = L := (rfl)
theorem Rel.lock (r : Rel K mg H al T L) (lk : Option Nat) : Rel K mg H al T (lockL lk L) := by
  cases lk with
  | none => exact r
  | some n =>
    refine ⟨by simp [lockL, r.len], r.nd, r.dis, r.trk, fun k o e => ?_⟩
    unfold lockL at e
    by_cases z : n = k
    · subst z
      by_cases hn : n < L.length
      · rw [List.getElem?_set_self hn] at e; cases e
      · rw [List.getElem?_eq_none (by simpa using hn)] at e; cases e
    · rw [List.getElem?_set_ne z] at e
      exact r.cell k o e
theorem Conf.lock {σ : St} {env : En} (c : Conf K mg σ H env L al T) (lk : Option Nat) : Conf K mg σ H env (lockL lk L) al T := ⟨c.rel.lock lk, c.len, c.slot⟩
theorem Stp.opened (r0 : Rel K mg H al T L) {lk : Option Nat} (s : Stp K mg H al T (lockL lk L) H1 al1 T1 L1) : Stp K mg H al T L H1 al1 T1 (openL lk L L1) := by
  cases lk with
  | none => exact s
  | some n =>
    simp only [openL]
    cases e0 : L[n]? with
    | none =>
      have : lockL (some n) L = L := by
        unfold lockL
        apply List.ext_getElem?
        intro k
        by_cases z : n = k
        · subst z
          rw [e0, List.getElem?_eq_none]
          have := List.getElem?_eq_none_iff.mp e0
          simpa using this
        · rw [List.getElem?_set_ne z]
      rw [this] at s
      simpa [e0] using s
    | some c =>
      have hn : n < L.length := (List.getElem?_eq_some_iff.mp e0).1
      have lkn : (lockL (some n) L)[n]? = some none := by unfold lockL; rw [List.getElem?_set_self hn]
      have l1n := s.lck n lkn
      have hn1 : n < L1.length := (List.getElem?_eq_some_iff.mp l1n).1
      have alvS : ∀ b, Alv al (lockL (some n) L) b → Alv al L b := fun b ⟨k, o, e1, e2⟩ => ⟨k, o, e1, by
        unfold lockL at e2
        by_cases z : n = k
        · subst z; rw [List.getElem?_set_self hn] at e2; cases e2
        · rw [List.getElem?_set_ne z] at e2; exact e2⟩
      obtain ⟨be, eb, fb⟩ := s.ext
      simp only
      refine ⟨⟨by simp [s.rel.len], s.rel.nd, s.rel.dis, s.rel.trk, fun k o e => ?_⟩, s.ext, s.text, fun b u e z => s.frame b u e fun q => z (alvS b q), s.stay, fun k e => ?_, fun k o e => ?_⟩
      · by_cases z : n = k
        · subst z
          rw [List.getElem?_set_self hn1] at e
          cases e
          obtain ⟨a, e1, q⟩ := r0.cell n o e0
          refine ⟨a, s.ale _ _ e1, ObR.le s.le s.ale (fun u h => s.frame a u h fun ⟨k, o', e2, e3⟩ => ?_) q⟩
          have : k = n := by
            obtain ⟨h1, h2⟩ := List.getElem?_eq_some_iff.mp e1
            obtain ⟨h3, h4⟩ := List.getElem?_eq_some_iff.mp e2
            exact (List.getElem_inj r0.nd).mp (h4.trans h2.symm)
          subst this
          rw [lkn] at e3; cases e3
        · rw [List.getElem?_set_ne z] at e
          exact s.rel.cell k o e
      · by_cases z : n = k
        · subst z
          rw [List.getElem?_set_self hn1]
          rw [e0] at e; cases e; rfl
        · rw [List.getElem?_set_ne z]
          exact s.lck k (by unfold lockL; rw [List.getElem?_set_ne z]; exact e)
      · by_cases z : n = k
        · subst z
          rw [List.getElem?_set_self hn1]
          rw [e0] at e; cases e; exact ⟨_, rfl⟩
        · rw [List.getElem?_set_ne z]
          exact s.alv k o (by unfold lockL; rw [List.getElem?_set_ne z]; exact e)
theorem Stp.updT {D : Addr} {o : HO} (hD : H D = none) (s : Stp K mg H al T L H1 al1 (D :: T) L1) : Stp K mg H al T L (upd H1 D o) al1 (D :: T) L1 := by
  have r := s.rel
  have m : mask (upd H1 D o) (al1 ++ (D :: T)) = mask H1 (al1 ++ (D :: T)) := mask_in (by simp)
  refine ⟨⟨r.len, r.nd, r.dis, fun b h => ?_, fun k ob e => ?_⟩, s.ext, s.text, fun b u e z => ?_, fun b e => ?_, s.lck, s.alv⟩
  · by_cases z : b = D
    · subst z; rw [upd_same]; simp
    · rw [upd_ne z]; exact r.trk b h
  · rw [m]
    obtain ⟨a, e1, q⟩ := r.cell k ob e
    have : a ≠ D := by
      rintro rfl
      exact r.dis a (List.mem_of_getElem? e1) List.mem_cons_self
    exact ⟨a, e1, ObR.le (Le.refl _) (ALe.refl _) (fun _ z => by rw [upd_ne this]; exact z) q⟩
  · rw [upd_ne]
    · exact s.frame b u e z
    · rintro rfl; rw [hD] at e; cases e
  · by_cases z : b = D
    · subst z; rw [upd_same]; simp
    · rw [upd_ne z]; exact s.stay b e
end

def Wlk (K : PySem.W.Frag) (mg : Str → Option Value) (H : Hp) (al T : List Addr) (L : LH) (J : It) (ws : List Va) : Prop :=
  ∀ H1 al1 T1 L1, Stp K mg H al T L H1 al1 T1 L1 → J.stop ws.length H1 ∧ ∀ i w, ws[i]? = some w → J.go i H1 ∧ ∀ x H2, J.yld i H1 x H2 → Stp K mg H1 al1 T1 L1 H2 al1 T1 L1 ∧ Rp K mg (mask H2 (al1 ++ T1)) al1 x w
abbrev Srcf := En → LH → Res (List Va × Option Nat)
def IPost (X : Cx) (Wx : WX) (σ : St) (H : Hp) (al T : List Addr) (L : LH) (r : Res (List Va × Option Nat)) (R : It → Hp → Prop) : Prop := match r with
  | .ok p L1 => ∀ J H1 al1, Stp X.K X.mg H al T L H1 al1 T L1 → Wlk X.K X.mg H1 al1 T (lockL p.2 L1) J p.1 → R J H1
  | .exc c f L1 => ∀ cls d H' al', Stp X.K X.mg H al T L H' al' T L1 → ExR X.mg (mask H' (al' ++ T)) c f cls d → Wx cls d σ H'
  | .stuck => False
def SI (X : Cx) (Wx : WX) (tg iter : Expr) (s : Srcf) : Prop := PI X tg iter fun σ H R => ∃ env L al T, Conf X.K X.mg σ H env L al T ∧ IPost X Wx σ H al T L (s env L) R
theorem PI.imp {X : Cx} {tg iter : Expr} {t t' : TI} (h : PI X tg iter t) (k : ∀ σ H R, t' σ H R → t σ H R) : PI X tg iter t' := ⟨fun pins s σ H R I q => h.run pins s σ H R I (k σ H R q)⟩
theorem PI.or {X : Cx} {tg iter : Expr} {t u : TI} (h : PI X tg iter t) (k : PI X tg iter u) : PI X tg iter (fun σ H R => t σ H R ∨ u σ H R) := ⟨fun pins s σ H R I q => by
  rcases q with q | q
  · exact h.run pins s σ H R I q
  · exact k.run pins s σ H R I q⟩
section
variable {X : Cx} {Wx : WX}
def srcOf (w : Va) (L : LH) : Option (List Va × Option Nat) := match w with
  | .loc n => match L[n]? with
    | some (some (.lst ws)) => some (ws, some n)
    | _ => none
  | .d (.list ds) => some (ds.map .d, none)
  | .d (.tuple ds) => some (ds.map .d, none)
  | .tup ws => some (ws, none)
  | _ => none
def srcV (f : EF) : Srcf := fun env L => (f env L).bind fun w L1 => match srcOf w L1 with
  | some p => .ok p L1
  | none => .stuck
theorem rps_get {K : PySem.W.Frag} {mg : Str → Option Value} {M : Hp} {al : List Addr} : ∀ {vs : List V} {ws : List Va} {i : Nat} {w : Va}, Rps K mg M al vs ws → ws[i]? = some w → ∃ v, vs[i]? = some v ∧ Rp K mg M al v w
  | _, _, _, _, .nil, e => by simp at e
  | _, _, 0, _, .cons a _, e => by simp at e; subst e; exact ⟨_, rfl, a⟩
  | _, _, i + 1, _, .cons _ b, e => by simpa using rps_get (i := i) b (by simpa using e)
theorem pi_seq {tg l : Expr} {tl : TE} (hl : PE X l tl) : PI X tg l (fun σ H R => tl σ H fun x H1 => ∃ a, x = .ref a ∧ ((∃ xs, SqL X.K H1 a xs) ∧ R (Itl X.K a) H1 ∨ (∃ xs, SqT X.K H1 a xs) ∧ R (Itt X.K a) H1)) := by
  refine ⟨fun pins s σ H R I h => ?_⟩
  refine thn (hl.run pins s σ H _ I h) fun v s1 ⟨x, H1, I1, r1, q1⟩ => ?_
  obtain ⟨a, e, q⟩ := q1
  subst e
  cases r1
  rcases q with ⟨⟨xs, hq⟩, q⟩ | ⟨⟨xs, hq⟩, q⟩
  · obtain ⟨its, rv, p, hz⟩ := I1.list hq
    refine wpAny_pyIter_list p.isList ?_
    refine ⟨s1.heap.objs.size, [s1.heap.objs.size], _, _, H1, rfl, I1.kept (t' := s1.toks) fun b o e => Heap.get?_push_of_some _ e, turn_list a _, ⟨_, Heap.get?_push_size _ rfl, rfl, rfl⟩, fun b hb => ?_, q⟩
    have e : b = s1.heap.objs.size := by simpa using hb
    subst e
    exact I1.fpOk (Nat.le_refl _) (I1.hok.fresh (Nat.le_refl _))
  · obtain ⟨its, rv, p, hz⟩ := I1.tuple hq
    refine wpAny_pyIter_tuple (show s1.heap.IsTuple a its.toArray from p) ?_
    refine ⟨s1.heap.objs.size, [s1.heap.objs.size], _, _, H1, rfl, I1.kept (t' := s1.toks) fun b o e => Heap.get?_push_of_some _ e, turn_tuple a _, ⟨_, Heap.get?_push_size _ rfl, rfl, rfl⟩, fun b hb => ?_, q⟩
    have e : b = s1.heap.objs.size := by simpa using hb
    subst e
    exact I1.fpOk (Nat.le_refl _) (I1.hok.fresh (Nat.le_refl _))
section
variable {K : PySem.W.Frag} {mg : Str → Option Value} {H : Hp} {al T : List Addr} {L : LH}
theorem wlk_lst {a : Addr} {vs : List V} {ws : List Va} (rel : Rel K mg H al T L) (h : H a = some (.lst vs)) (na : ¬ Alv al L a) (r : Rps K mg (mask H (al ++ T)) al vs ws) : Wlk K mg H al T L (Itl K a) ws := by
  intro H1 al1 T1 L1 s
  have h1 := s.frame a _ h na
  have r1 := s.rps r
  refine ⟨⟨vs, SqL.of h1, by rw [Paired.length r1]; exact Nat.le_refl _⟩, fun i w e => ?_⟩
  obtain ⟨v, e2, q⟩ := rps_get r1 e
  refine ⟨⟨vs, v, SqL.of h1, e2⟩, fun x H2 y => ?_⟩
  obtain ⟨rfl, y⟩ := y
  have := y vs (SqL.of h1)
  rw [e2] at this; cases this
  exact ⟨Stp.refl s.rel, q⟩
theorem wlk_tup {a : Addr} {vs : List V} {ws : List Va} (rel : Rel K mg H al T L) (h : mask H (al ++ T) a = some (.tup vs)) (r : Rps K mg (mask H (al ++ T)) al vs ws) : Wlk K mg H al T L (Itt K a) ws := by
  intro H1 al1 T1 L1 s
  have h1 := (of_mask (s.le _ _ h)).2
  have r1 := s.rps r
  refine ⟨⟨vs, SqT.of h1, by rw [Paired.length r1]; exact Nat.le_refl _⟩, fun i w e => ?_⟩
  obtain ⟨v, e2, q⟩ := rps_get r1 e
  refine ⟨⟨vs, v, SqT.of h1, e2⟩, fun x H2 y => ?_⟩
  obtain ⟨rfl, y⟩ := y
  have := y vs (SqT.of h1)
  rw [e2] at this; cases this
  exact ⟨Stp.refl s.rel, q⟩
theorem wlk_range {lo : Int} {n : Nat} (rel : Rel K mg H al T L) : Wlk K mg H al T L (Itr lo n) ((List.range n).map fun i => .d (.int (lo + (i : Nat)))) := by
  intro H1 al1 T1 L1 s
  refine ⟨by show n ≤ _; simp, fun i w e => ?_⟩
  rw [List.getElem?_map] at e
  by_cases hi : i < n
  · rw [List.getElem?_range hi] at e
    cases e
    refine ⟨hi, fun x H2 y => ?_⟩
    obtain ⟨rfl, rfl⟩ := y
    exact ⟨Stp.refl s.rel, .d (.int _)⟩
  · rw [List.getElem?_eq_none (by simpa using hi)] at e; cases e
end
theorem not_alv_mask {H : Hp} {al T : List Addr} {L : LH} {a : Addr} {o : HO} (e : mask H (al ++ T) a = some o) : ¬ Alv al L a := fun z => (of_mask e).1 (List.mem_append_left _ z.mem)
theorem si_v {tg e : Expr} {f : EF} (h : SE X Wx e f) : SI X Wx tg e (srcV f) := by
  refine PI.imp (pi_seq h) ?_
  rintro σ H R ⟨env, L, al, T, c, q⟩
  refine ⟨env, L, al, T, c, ?_⟩
  unfold srcV at q
  revert q
  generalize f env L = r
  intro q
  cases r with
  | stuck => exact q
  | exc c f L1 => exact q
  | ok w L1 =>
    intro v H1 al1 s1 r1
    simp only [Res.bind_ok] at q
    cases e : srcOf w L1 with
    | none => rw [e] at q; exact q.elim
    | some p =>
      rw [e] at q
      cases w with
      | loc n =>
        simp only [srcOf] at e
        split at e
        · rename_i ws e1
          cases e
          obtain ⟨a, vs, rfl, ea, e3, e4⟩ := loc_lst s1.rel r1 e1
          refine ⟨a, rfl, .inl ⟨⟨vs, SqL.of e3⟩, q _ H1 al1 s1 ?_⟩⟩
          refine wlk_lst (s1.rel.lock _) e3 (fun ⟨k, o, h1, h2⟩ => ?_) e4
          have hn : n < L1.length := (List.getElem?_eq_some_iff.mp e1).1
          have : k = n := by
            obtain ⟨h3, h4⟩ := List.getElem?_eq_some_iff.mp ea
            obtain ⟨h5, h6⟩ := List.getElem?_eq_some_iff.mp h1
            exact (List.getElem_inj s1.rel.nd).mp (h6.trans h4.symm)
          subst this
          unfold lockL at h2
          simp only at h2
          rw [List.getElem?_set_self hn] at h2
          cases h2
        · cases e
      | d y =>
        cases r1 with
        | d r1 =>
          cases r1 with
          | lst e1 e2 => cases e; exact ⟨_, rfl, .inl ⟨⟨_, SqL.of (of_mask e1).2⟩, q _ H1 al1 s1 (wlk_lst s1.rel (of_mask e1).2 (not_alv_mask e1) (all_dq e2))⟩⟩
          | tup e1 e2 => cases e; exact ⟨_, rfl, .inr ⟨⟨_, SqT.of (of_mask e1).2⟩, q _ H1 al1 s1 (wlk_tup s1.rel e1 (all_dq e2))⟩⟩
          | non => cases e
          | bl _ => cases e
          | int _ => cases e
          | str _ => cases e
      | tup us =>
        cases e
        cases r1 with
        | tup e1 e2 => exact ⟨_, rfl, .inr ⟨⟨_, SqT.of (of_mask e1).2⟩, q _ H1 al1 s1 (wlk_tup s1.rel e1 e2)⟩⟩
      | dct _ => cases e
      | exc _ _ => cases e
      | scr ns => cases e
end
end L2.HW
namespace L2.HW
open PySem PySem.Spec PyProof.Rows
section
variable {X : Cx} {Wx : WX}
def rngV (lo : Int) (n : Nat) : List Va := (List.range n).map fun i => .d (.int (lo + (i : Nat)))
def srcR1 (fs : En → LH → Res (List Va)) : Srcf := fun env L => (fs env L).bind fun ws L1 => match ws with
  | [.d (.int j)] => if -(2 ^ 62) ≤ j ∧ j < 2 ^ 62 then .ok (rngV 0 j.toNat, none) L1 else .stuck
  | _ => .stuck
def srcR2 (fs : En → LH → Res (List Va)) : Srcf := fun env L => (fs env L).bind fun ws L1 => match ws with
  | [.d (.int i), .d (.int j)] => if -(2 ^ 62) ≤ i ∧ i < 2 ^ 62 ∧ -(2 ^ 62) ≤ j ∧ j < 2 ^ 62 then .ok (rngV i (j - i).toNat, none) L1 else .stuck
  | _ => .stuck
theorem iseq {α β : Type} {R : Hp → List Addr → β → α → Prop} {σ : St} {H : Hp} {al T : List Addr} {L : LH} {env : En} {f : En → LH → Res α} {k : α → LH → Res (List Va × Option Nat)} {Q : It → Hp → Prop} {Q' : β → Hp → Prop}
    (c : Conf X.K X.mg σ H env L al T) (h : IPost X Wx σ H al T L ((f env L).bind k) Q)
    (hk : ∀ b H1 a L1 al1, Conf X.K X.mg σ H1 env L1 al1 T → Stp X.K X.mg H al T L H1 al1 T L1 → R (mask H1 (al1 ++ T)) al1 b a → IPost X Wx σ H1 al1 T L1 (k a L1) Q → Q' b H1) : Rdg X Wx R f σ H Q' := by
  refine ⟨env, L, al, T, c, ?_⟩
  revert h
  generalize f env L = r
  intro g
  cases r with
  | stuck => exact g
  | exc c f L1 => exact g
  | ok b L1 =>
    intro b' H1 al1 s1 q1
    refine hk b' H1 b L1 al1 (c.stp s1) s1 q1 ?_
    simp only [Res.bind_ok] at g
    revert g
    generalize k b L1 = r2
    intro g
    cases r2 with
    | stuck => exact g
    | exc c' f L2 => exact fun cls d H' al' t q => g cls d H' al' (Stp.trans c.rel.len s1 t) q
    | ok o L2 => exact fun J H' al' t q => g J H' al' (Stp.trans c.rel.len s1 t) q
theorem si_r1 {tg a : Expr} {fs : En → LH → Res (List Va)} {p pos : Pos} (hg : Gl X "range") (hm : X.mg "range" = none) (ha : SA X Wx [a] fs) (hs : starEach [a] X.env = [(false, eval a X.env)] := by rfl) : SI X Wx tg (.Call (.Name "range" p) [a] [] pos) (srcR1 fs) := by
  refine PI.imp (pi_range1 hg hm ha hs) ?_
  rintro σ H R ⟨env, L, al, T, c, h⟩
  refine iseq (R := RVs X) c h fun vs H1 ws L1 al1 c1 s1 r1 h1 => ?_
  split at h1
  · rename_i j
    obtain ⟨v, rfl, q⟩ := rps_1 r1
    split at h1
    · rename_i hb
      refine ⟨j, by rw [dq_int (rp_d q)], hb.1, hb.2, h1 _ H1 al1 (Stp.refl c1.rel) (wlk_range (lo := 0) c1.rel)⟩
    · exact h1.elim
  · exact h1.elim
def forL (g : Va → En → LH → Res En) (body : SFn) : List Va → En → LH → Out
  | [], env, L => .nx env L
  | w :: ws, env, L => match g w env L with
    | .ok env1 L1 => match body env1 L1 with
      | .nx env2 L2 => forL g body ws env2 L2
      | .ct env2 L2 => forL g body ws env2 L2
      | .bk env2 L2 => .nx env2 L2
      | o => o
    | _ => .stuck
def openOut (lk : Option Nat) (L0 : LH) : Out → Out
  | .nx env L => .nx env (openL lk L0 L)
  | .rt w L => .rt w (openL lk L0 L)
  | .rf o L => .rf o (openL lk L0 L)
  | .bk env L => .bk env (openL lk L0 L)
  | .ct env L => .ct env (openL lk L0 L)
  | .exc c f env L => .exc c f env (openL lk L0 L)
  | .stuck => .stuck
def sFor (s : Srcf) (g : Va → En → LH → Res En) (body : SFn) : SFn := fun env L => (s env L).then env fun p L1 => openOut p.2 L1 (forL g body p.1 env (lockL p.2 L1))
theorem SPost.opened {H1 H3 : Hp} {al1 al3 T : List Addr} {L1 L3 : LH} {lk : Option Nat} {r : Out} {D : Ends} (r0 : Rel X.K X.mg H1 al1 T L1) (s : Stp X.K X.mg H1 al1 T (lockL lk L1) H3 al3 T L3) (h : SPost X Wx H1 al1 T L1 (openOut lk L1 r) D) : SPost X Wx H3 al3 T L3 r D := by
  have hl : al1.length = (lockL lk L1).length := (r0.lock lk).len
  have op : ∀ {H' : Hp} {al' T' : List Addr} {L' : LH}, Stp X.K X.mg H3 al3 T L3 H' al' T' L' → Stp X.K X.mg H1 al1 T L1 H' al' T' (openL lk L1 L') := fun t => Stp.opened r0 (Stp.trans hl s t)
  cases r with
  | nx env' L' => exact fun σ' H' al' t c => h σ' H' al' (op t) ⟨(op t).rel, c.len, c.slot⟩
  | rt w L' => exact fun v H' al' t c => h v H' al' (op t) c
  | rf o L' => exact fun a H' al' ha t c => h a H' al' (s.back ha) (op t) c
  | bk env' L' => exact fun σ' H' al' t c => h σ' H' al' (op t) ⟨(op t).rel, c.len, c.slot⟩
  | ct env' L' => exact fun σ' H' al' t c => h σ' H' al' (op t) ⟨(op t).rel, c.len, c.slot⟩
  | exc c f env' L' => exact fun cls d σ' H' al' t c => h cls d σ' H' al' (op t) ⟨(op t).rel, c.len, c.slot⟩
  | stuck => exact h
theorem ss_for {tg iter : Expr} {body : List Stmt} {pos : Pos} {s : Srcf} {sl : List Nat} {g : Va → En → LH → Res En} {fb : SFn} (hp : PassesOwn (model X.prog X.w) X.A X.env X.xe) (hc : X.calm = true) (hi : SI X Wx tg iter s) (hg : SG X sl tg g) (hb : SB X Wx body fb)
    (hs : ∀ x, foldedSetIterable iter X.env x = pure x := by intro _; rfl) : SS X Wx (.For tg iter body [] pos) (sFor s g fb) := by
  refine PS.imp (ps_for hp hc hi hg hb hs) ?_
  rintro D σ H ⟨env, L, al, T, c, h⟩
  refine ⟨env, L, al, T, c, ?_⟩
  unfold sFor at h
  revert h
  generalize s env L = r
  intro h
  cases r with
  | stuck => exact h
  | exc c' f L1 => exact fun cls d H' al' t e => h cls d σ H' al' t (c.stp t) e
  | ok p L1 =>
    obtain ⟨ws, lk⟩ := p
    intro J H1 al1 s1 wk
    have c1 := c.stp s1
    have h := SPost.on c.rel.len s1 h
    simp only [then_ok] at h
    have hl : al1.length = (lockL lk L1).length := (c1.rel.lock lk).len
    let W : Nat → Nat → St → Hp → Prop := fun i m σ2 H2 => m = ws.length - i ∧ i ≤ ws.length ∧ ∃ env2 al2 L2, Stp X.K X.mg H1 al1 T (lockL lk L1) H2 al2 T L2 ∧ Conf X.K X.mg σ2 H2 env2 L2 al2 T ∧ SPost X Wx H1 al1 T L1 (openOut lk L1 (forL g fb (ws.drop i) env2 L2)) D
    refine ⟨W, ⟨ws.length, by simp, Nat.zero_le _, env, al1, lockL lk L1, Stp.refl (c1.rel.lock lk), c1.lock lk, h⟩, ?_⟩
    rintro i m σ2 H2 ⟨rfl, hi, env2, al2, L2, s2, c2, h2⟩
    obtain ⟨stop, item⟩ := wk H2 al2 T L2 s2
    by_cases hlt : i < ws.length
    · have ew : ws[i]? = some ws[i] := List.getElem?_eq_getElem hlt
      obtain ⟨go, yl⟩ := item i _ ew
      refine .inr ⟨go, W (i + 1) (ws.length - (i + 1)), fun σ' H' n => ⟨ws.length - (i + 1), by omega, n⟩, fun x H3 y => ?_⟩
      obtain ⟨s3, rx⟩ := yl x H3 y
      have c3 := c2.stp s3
      have s23 := Stp.trans hl s2 s3
      refine ⟨ws[i], env2, L2, al2, T, c3, rx, ?_⟩
      rw [List.drop_eq_getElem_cons hlt] at h2
      unfold forL at h2
      revert h2
      generalize g ws[i] env2 L2 = r1
      intro h2
      cases r1 with
      | stuck => exact h2
      | exc _ _ _ => exact h2
      | ok env4 L4 =>
        intro σ4 H4 al4 s4 c4 _
        have s24 := Stp.trans hl s23 s4
        refine ⟨env4, L4, al4, T, c4, ?_⟩
        simp only at h2
        revert h2
        generalize fb env4 L4 = r2
        intro h2
        have again : ∀ {env5 : En} {L5 : LH} {σ5 : St} {H5 : Hp} {al5 : List Addr}, SPost X Wx H1 al1 T L1 (openOut lk L1 (forL g fb (ws.drop (i + 1)) env5 L5)) D → Stp X.K X.mg H4 al4 T L4 H5 al5 T L5 → Conf X.K X.mg σ5 H5 env5 L5 al5 T → W (i + 1) (ws.length - (i + 1)) σ5 H5 :=
          fun {env5 L5 σ5 H5 al5} h5 s5 c5 => ⟨rfl, hlt, env5, al5, L5, Stp.trans hl s24 s5, c5, h5⟩
        cases r2 with
        | nx env5 L5 => exact fun σ5 H5 al5 s5 c5 => again h2 s5 c5
        | ct env5 L5 => exact fun σ5 H5 al5 s5 c5 => again h2 s5 c5
        | bk env5 L5 => exact SPost.opened (r := .nx env5 L5) c1.rel s24 h2
        | rt w L5 => exact SPost.opened (r := .rt w L5) c1.rel s24 h2
        | rf o L5 => exact SPost.opened (r := .rf o L5) c1.rel s24 h2
        | exc c' f' env5 L5 => exact SPost.opened (r := .exc c' f' env5 L5) c1.rel s24 h2
        | stuck => exact h2
    · have e : i = ws.length := by omega
      subst e
      rw [List.drop_length] at h2
      exact .inl ⟨stop, (SPost.opened (r := .nx env2 L2) c1.rel s2 h2) σ2 H2 al2 (Stp.refl c2.rel) c2⟩
end
end L2.HW
namespace L2.HW
open PySem PySem.Spec PyProof.Rows
section
variable {X : Cx} {Wx : WX}
abbrev FX : WX := fun _ _ _ _ => False
def STs (X : Cx) (Wx : WX) (ifs : List Expr) (t : En → LH → Res Bool) : Prop := PTs X ifs (Rdg X Wx RB t)
def tTrue : En → LH → Res Bool := fun _ L => .ok true L
theorem sts_nil : STs X Wx [] tTrue := ⟨fun pins s σ H Q I ⟨env, L, al, T, c, h⟩ => pts_nil.run pins s σ H Q I (gok c.rel h rfl)⟩
theorem sts_one {c : Expr} {t : En → LH → Res Bool} (h : ST X Wx c t) : STs X Wx [c] t := pts_one h
def compL (g : Va → En → LH → Res En) (t : En → LH → Res Bool) (f : EF) : List Va → En → LH → Res (List Va)
  | [], _, L => .ok [] L
  | w :: ws, env, L => match g w env L with
    | .ok env1 L1 => match t env1 L1 with
      | .ok b L2 => if b then match f env1 L2 with
          | .ok u L3 => (compL g t f ws env L3).bind fun us L4 => .ok (u :: us) L4
          | _ => .stuck
        else compL g t f ws env L2
      | _ => .stuck
    | _ => .stuck
def wipeE (env : En) : List Nat → En
  | [] => env
  | v :: vs => (wipeE env vs).set v none
def fComp (s : Srcf) (g : Va → En → LH → Res En) (t : En → LH → Res Bool) (f : EF) (vs : List Nat) : En → LH → Res Ob := fun env L => (s env L).bind fun p L1 =>
  if p.1.length ≤ sizeLine then match compL g t f p.1 (wipeE env vs) (lockL p.2 L1) with
    | .ok us L2 => .ok (.lst us) (openL p.2 L1 L2)
    | _ => .stuck
  else .stuck
theorem wipeE_length (env : En) : ∀ vs, (wipeE env vs).length = env.length
  | [] => rfl
  | v :: vs => by unfold wipeE; rw [List.length_set, wipeE_length env vs]
theorem wipeE_some {env : En} {i : Nat} {x : Va} : ∀ {vs : List Nat}, (wipeE env vs)[i]? = some (some x) → env[i]? = some (some x) ∧ i ∉ vs
  | [], h => ⟨h, by simp⟩
  | v :: vs, h => by
    unfold wipeE at h
    by_cases hi : v = i
    · subst hi
      by_cases hv : v < (wipeE env vs).length
      · rw [List.getElem?_set_self hv] at h; cases h
      · rw [List.getElem?_eq_none (by simpa using hv)] at h; cases h
    · rw [List.getElem?_set_ne hi] at h
      obtain ⟨h1, h2⟩ := wipeE_some h
      exact ⟨h1, by simp only [List.mem_cons, not_or]; exact ⟨fun e => hi e.symm, h2⟩⟩
theorem wipe_out' {σ : St} {i : Nat} : ∀ {vs : List Nat}, i ∉ vs → (wipe σ vs)[i]? = σ[i]?
  | [], _ => rfl
  | v :: vs, h => by
    unfold wipe
    rw [List.getElem?_set_ne (by intro z; exact h (by simp [z]))]
    exact wipe_out' fun z => h (List.mem_cons_of_mem _ z)
theorem wipe_in {σ : St} {i : Nat} : ∀ {vs : List Nat}, i ∈ vs → i < σ.length → (wipe σ vs)[i]? = some none
  | [], h, _ => by cases h
  | v :: vs, h, hl => by
    unfold wipe
    by_cases e : v = i
    · subst e
      rw [List.getElem?_set_self (by rw [wipe_length]; exact hl)]
    · rw [List.getElem?_set_ne e]
      rcases List.mem_cons.mp h with z | z
      · exact absurd z.symm e
      · exact wipe_in z hl
theorem wipe_agr {σ σ2 : St} {vs sl : List Nat} (h : Agr sl (wipe σ vs) σ2) (hs : ∀ j ∈ sl, j ∈ vs) : wipe σ2 vs = wipe σ vs := by
  have hlen : σ2.length = σ.length := by rw [h.1, wipe_length]
  apply List.ext_getElem?
  intro j
  by_cases e : j ∈ vs
  · by_cases hj : j < σ.length
    · rw [wipe_in e (by omega), wipe_in e hj]
    · rw [List.getElem?_eq_none (by rw [wipe_length]; omega), List.getElem?_eq_none (by rw [wipe_length]; omega)]
  · rw [wipe_out' e, h.2 j fun z => e (hs j z)]
theorem Conf.wiped {K : PySem.W.Frag} {mg : Str → Option Value} {σ : St} {H : Hp} {env : En} {L : LH} {al T : List Addr} (c : Conf K mg σ H env L al T) (vs : List Nat) : Conf K mg (wipe σ vs) H (wipeE env vs) L al T :=
  ⟨c.rel, by rw [wipe_length, wipeE_length, c.len], fun i w e => by
    obtain ⟨e1, n⟩ := wipeE_some e
    obtain ⟨v, h1, h2⟩ := c.slot i w e1
    exact ⟨v, by rw [wipe_out' n]; exact h1, h2⟩⟩
theorem lc_at {wi : TI} {s : Srcf} {sl vs : List Nat} {g : Va → En → LH → Res En} {t : En → LH → Res Bool} {f : EF} {σ : St} {H : Hp} {Q : VK} {gR : TG} {tR : TT} {eR : TE} {env : En} {L : LH} {al T : List Addr} (hv : ∀ j ∈ sl, j ∈ vs) (c : Conf X.K X.mg σ H env L al T)
    (hw : ∀ R, IPost X Wx σ H al T L (s env L) R → wi σ H R)
    (hgR : ∀ v σ H Q, (∃ w env L al T, Conf X.K X.mg σ H env L al T ∧ RV X (mask H (al ++ T)) al v w ∧ TPost X sl σ H al T L (g w env L) Q) → gR v σ H Q)
    (htR : ∀ σ H Q, Rdg X FX RB t σ H Q → tR σ H Q) (heR : ∀ σ H Q, Rdg X FX (RV X) f σ H Q → eR σ H Q)
    (h : FPost X Wx σ H al T L (fComp s g t f vs env L) Q) : tLc wi gR tR eR vs σ H Q := by
  refine hw _ ?_
  unfold fComp at h
  revert h
  generalize s env L = r
  intro h
  cases r with
  | stuck => exact h
  | exc c' f L1 => exact h
  | ok p L1 =>
    obtain ⟨ws, lk⟩ := p
    intro J H1 al1 s1 wk D hD
    have c1 := c.stp s1
    simp only [Res.bind_ok] at h
    split at h
    · rename_i hz
      have hl : al1.length = (lockL lk L1).length := (c1.rel.lock lk).len
      have c1l := c1.lock lk
      -- the new list, held
      have s0 : Stp X.K X.mg H1 al1 T (lockL lk L1) (upd H1 D (.lst [])) al1 (D :: T) (lockL lk L1) := c1l.rel.allocT hD
      let W : Nat → Nat → Hp → Prop := fun i m H2 => m = ws.length - i ∧ i ≤ ws.length ∧ ∃ al2 L2 av aw, Stp X.K X.mg H1 al1 T (lockL lk L1) H2 al2 (D :: T) L2 ∧ H2 D = some (.lst av) ∧ Rps X.K X.mg (mask H2 (al2 ++ (D :: T))) al2 av aw ∧ aw.length ≤ i ∧
        FPost X Wx σ H1 al1 T L1 (match compL g t f (ws.drop i) (wipeE env vs) L2 with
          | .ok us L3 => .ok (.lst (aw ++ us)) (openL lk L1 L3)
          | _ => .stuck) Q
      have back : ∀ x, H1 x = none → H x = none := fun x z => s1.back z
      have h1 : FPost X Wx σ H1 al1 T L1 (match compL g t f ws (wipeE env vs) (lockL lk L1) with
          | .ok us L3 => .ok (.lst us) (openL lk L1 L3)
          | _ => .stuck) Q := by
        revert h
        generalize compL g t f ws (wipeE env vs) (lockL lk L1) = r2
        intro h
        cases r2 with
        | ok us L3 => exact fun a H' al' ha t q => h a H' al' (back a ha) (Stp.trans c.rel.len s1 t) q
        | exc _ _ _ => exact h.elim
        | stuck => exact h.elim
      refine ⟨W, ⟨ws.length, by simp, Nat.zero_le _, al1, lockL lk L1, [], [], s0, upd_same, .nil, Nat.le_refl _, ?_⟩, ?_⟩
      · simpa using h1
      rintro i m H2 ⟨rfl, hi, al2, L2, av, aw, s2, hav, raw, hlen, h2⟩
      obtain ⟨stop, item⟩ := wk H2 al2 (D :: T) L2 s2
      by_cases hlt : i < ws.length
      · have ew : ws[i]? = some ws[i] := List.getElem?_eq_getElem hlt
        obtain ⟨go, yl⟩ := item i _ ew
        refine .inr ⟨go, W (i + 1) (ws.length - (i + 1)), fun H' n => ⟨ws.length - (i + 1), by omega, n⟩, fun x H3 y => ?_⟩
        obtain ⟨s3, rx⟩ := yl x H3 y
        have s13 := Stp.trans hl s2 s3
        have c3 : Conf X.K X.mg (wipe σ vs) H3 (wipeE env vs) L2 al2 (D :: T) := (c1l.wiped vs).stp s13
        refine hgR _ _ _ _ ⟨ws[i], wipeE env vs, L2, al2, D :: T, c3, rx, ?_⟩
        rw [List.drop_eq_getElem_cons hlt] at h2
        unfold compL at h2
        revert h2
        generalize g ws[i] (wipeE env vs) L2 = r1
        intro h2
        cases r1 with
        | stuck => exact h2
        | exc _ _ _ => exact h2
        | ok env4 L4 =>
          intro σ4 H4 al4 s4 c4 ag
          have s14 := Stp.trans hl s13 s4
          refine ⟨wipe_agr ag hv, htR _ _ _ ⟨env4, L4, al4, D :: T, c4, ?_⟩⟩
          simp only at h2
          revert h2
          generalize t env4 L4 = r2
          intro h2
          cases r2 with
          | stuck => exact h2
          | exc _ _ _ => exact h2.elim
          | ok b L5 =>
            intro b' H5 al5 s5 e5
            obtain rfl : b' = b := e5
            have s15 := Stp.trans hl s14 s5
            have h5 : H5 D = some (.lst av) := s5.frame D _ (s4.frame D _ (s3.frame D _ hav (fun z => s2.rel.dis D z.mem List.mem_cons_self)) (fun z => s3.rel.dis D z.mem List.mem_cons_self)) (fun z => s4.rel.dis D z.mem List.mem_cons_self)
            have raw5 := s5.rps (s4.rps (s3.rps raw))
            simp only at h2
            cases b' with
            | false =>
              rw [if_neg Bool.false_ne_true] at h2 ⊢
              exact ⟨rfl, hlt, al5, L5, av, aw, s15, h5, raw5, by omega, h2⟩
            | true =>
              rw [if_pos rfl] at h2 ⊢
              have c5 := c4.stp s5
              refine heR _ _ _ ⟨env4, L5, al5, D :: T, c5, ?_⟩
              revert h2
              generalize f env4 L5 = r3
              intro h2
              cases r3 with
              | stuck => exact h2
              | exc _ _ _ => exact h2.elim
              | ok u L6 =>
                intro yv H6 al6 s6 ry
                have s16 := Stp.trans hl s15 s6
                have h6 : H6 D = some (.lst av) := s6.frame D _ h5 (fun z => s5.rel.dis D z.mem List.mem_cons_self)
                have raw6 := s6.rps raw5
                have l6 := Paired.length raw6
                refine ⟨av, h6, by omega, rfl, hlt, al6, L6, av ++ [yv], aw ++ [u], Stp.updT hD s16, upd_same, ?_, by simp; omega, ?_⟩
                · rw [mask_in (by simp)]
                  exact rps_app raw6 (.cons ry .nil)
                · simp only at h2
                  revert h2
                  generalize compL g t f (ws.drop (i + 1)) (wipeE env vs) L6 = r4
                  intro h2
                  cases r4 with
                  | stuck => exact h2
                  | exc _ _ _ => exact h2
                  | ok us L7 => simpa using h2
      · have e : i = ws.length := by omega
        subst e
        rw [List.drop_length] at h2
        unfold compL at h2
        simp only [List.append_nil] at h2
        exact .inl ⟨stop, h2 D H2 al2 hD (Stp.opened c1.rel s2) ⟨av, hav, raw⟩⟩
    · exact h.elim
theorem lc_red {wi : TI} {s : Srcf} {sl vs : List Nat} {g : Va → En → LH → Res En} {t : En → LH → Res Bool} {f : EF} {σ : St} {H : Hp} {Q : VK} {gR : TG} {tR : TT} {eR : TE} (hv : ∀ j ∈ sl, j ∈ vs)
    (hw : ∀ σ H R, (∃ env L al T, Conf X.K X.mg σ H env L al T ∧ IPost X Wx σ H al T L (s env L) R) → wi σ H R)
    (hgR : ∀ v σ H Q, (∃ w env L al T, Conf X.K X.mg σ H env L al T ∧ RV X (mask H (al ++ T)) al v w ∧ TPost X sl σ H al T L (g w env L) Q) → gR v σ H Q)
    (htR : ∀ σ H Q, Rdg X FX RB t σ H Q → tR σ H Q) (heR : ∀ σ H Q, Rdg X FX (RV X) f σ H Q → eR σ H Q)
    (h : FRdg X Wx (fComp s g t f vs) σ H Q) : tLc wi gR tR eR vs σ H Q := by
  obtain ⟨env, L, al, T, c, h⟩ := h
  exact lc_at hv c (fun R q => hw _ _ _ ⟨env, L, al, T, c, q⟩) hgR htR heR h
abbrev gRd (X : Cx) (sl : List Nat) (g : Va → En → LH → Res En) : TG := fun v σ H Q => ∃ w env L al T, Conf X.K X.mg σ H env L al T ∧ RV X (mask H (al ++ T)) al v w ∧ TPost X sl σ H al T L (g w env L) Q
abbrev BlkP (X : Cx) (scope : Scope) (P : Cx → Prop) : Prop := ∀ (s : Shared) (H : Hp) (C : Addr) (cl : List (Str × Addr)) (fp : List Addr), P (X.blk s H scope (compEnvC scope cl C X.env) fp)
theorem sf_comp {elt tg iter : Expr} {ifs : List Expr} {scope : Scope} {own : List (Str × Nat)} {pos : Pos} {s : Srcf} {sl : List Nat} {g : Va → En → LH → Res En} {t : En → LH → Res Bool} {f : EF} (hc : X.calm = true) (hN : X.N.Nodup) (hi : SI X Wx tg iter s) (ok : BlkOk X.N X.env.scope scope own)
    (hv : ∀ j ∈ sl, j ∈ own.map (·.2)) (hg : BlkP X scope fun X => SG X sl tg g) (ht : BlkP X scope fun X => STs X FX ifs t) (he : BlkP X scope fun X => SE X FX elt f) (hs : ∀ x, foldedSetIterable iter X.env x = pure x := by intro _; rfl) :
    SF X Wx (.ListComp elt [⟨tg, iter, ifs, 0⟩] scope pos) (fComp s g t f (own.map (·.2))) :=
  PE.imp (pe_lc (g := gRd X sl g) (tt := Rdg X FX RB t) (te := Rdg X FX (RV X) f) hc hN hi ok (fun s H C cl fp => hg s H C cl fp) (fun s H C cl fp => ht s H C cl fp) (fun s H C cl fp => he s H C cl fp) hs) fun σ H Q h => lc_red hv (fun _ _ _ h => h) (fun _ _ _ _ h => h) (fun _ _ _ h => h) (fun _ _ _ h => h) h
theorem ss_setComp {i : Nat} {y : Str} {py : Pos} {elt tg iter : Expr} {ifs : List Expr} {scope : Scope} {own : List (Str × Nat)} {pos spos : Pos} {s : Srcf} {sl : List Nat} {g : Va → En → LH → Res En} {t : En → LH → Res Bool} {f : EF} (hc : X.calm = true) (hN : X.N.Nodup) (hy : X.N[i]? = some y) (hyl : X.env.scope.names.lookup y = some .local)
    (hsw : swapsWith (.ListComp elt [⟨tg, iter, ifs, 0⟩] scope pos) (some (.Name y py)) spos.line X.env = pure true) (hi : SI X Wx tg iter s) (ok : BlkOk X.N X.env.scope scope own)
    (hv : ∀ j ∈ sl, j ∈ own.map (·.2)) (hg : BlkP X scope fun X => SG X sl tg g) (ht : BlkP X scope fun X => STs X FX ifs t) (he : BlkP X scope fun X => SE X FX elt f) (hs : ∀ x, foldedSetIterable iter X.env x = pure x := by intro _; rfl) :
    SS X Wx (.Assign [.Name y py] (.ListComp elt [⟨tg, iter, ifs, 0⟩] scope pos) spos) (sSet i (eDat (fComp s g t f (own.map (·.2))))) := by
  refine PS.imp (ps_setLc (g := gRd X sl g) (tt := Rdg X FX RB t) (te := Rdg X FX (RV X) f) hc hN hy hyl hsw hi ok (fun s H C cl fp => hg s H C cl fp) (fun s H C cl fp => ht s H C cl fp) (fun s H C cl fp => he s H C cl fp) hs) ?_
  rintro D σ H ⟨env, L, al, T, c, h⟩
  refine lc_red hv (fun _ _ _ h => h) (fun _ _ _ _ h => h) (fun _ _ _ h => h) (fun _ _ _ h => h) ⟨env, L, al, T, c, ?_⟩
  unfold sSet eDat at h
  revert h
  generalize fComp s g t f (own.map (·.2)) env L = r
  intro h
  cases r with
  | stuck => exact h
  | exc c' f' L1 => exact fun cls d H' al' s e => h cls d σ H' al' s (c.stp s) e
  | ok o L1 =>
    intro a H' al' ha st ob
    simp only [Res.bind_ok] at h
    cases e : o.va with
    | none => rw [e] at h; exact h.elim
    | some w =>
      rw [e] at h
      have r := st.rel
      have na : a ∉ al' ++ T := fun z => by
        rcases List.mem_append.mp z with z | z
        · exact r.dis a z List.mem_cons_self
        · exact (c.rel.fresh ha).2 z
      have m : Le (mask H' (al' ++ (a :: T))) (mask H' (al' ++ T)) := fun b u e => by
        obtain ⟨n, e⟩ := of_mask e
        exact mask_of (fun z => n (by simp only [List.mem_append, List.mem_cons] at z ⊢; exact z.imp id .inr)) e
      have st' := Stp.drop (te := [a]) (fun b hb => by have : b = a := by simpa using hb
                                                       rw [this]; exact ha) st
      exact h _ H' al' st' ((c.stp st').put (va_ok na m ob e))
end
end L2.HW
namespace L2.HW
open PySem PySem.Spec PyProof.Rows
abbrev Fn := List Va → LH → Res Va
mutual
/-- no cell from n0 on -/
def Va.low (n0 : Nat) : Va → Bool
  | .loc n => decide (n < n0)
  | .tup ws => lows n0 ws
  | .d _ => true
  | .dct _ => true
  | .exc _ _ => true
  | .scr _ => true
def lows (n0 : Nat) : List Va → Bool
  | [] => true
  | w :: r => w.low n0 && lows n0 r
end
def Ob.low (n0 : Nat) : Ob → Bool
  | .lst ws => lows n0 ws
  | .di kvs => kvs.all fun p => p.2.low n0
  | .dt kvs => kvs.all fun p => p.2.low n0
  | .ins _ fs => fs.all fun p => p.2.low n0
@[simp] theorem low_d (n0 : Nat) (x : PyData) : (Va.d x).low n0 = true := by simp [Va.low]
@[simp] theorem lows_d (n0 : Nat) : ∀ (xs : List PyData), lows n0 (xs.map Va.d) = true
  | [] => by simp [lows]
  | x :: xs => by simp [lows, lows_d n0 xs]
section
variable {K : PySem.W.Frag} {mg : Str → Option Value}
mutual
theorem rp_low {M : Hp} {al : List Addr} : ∀ {v : V} {w : Va}, Rp K mg M al v w → w.low al.length = true
  | _, _, .d q => by simp
  | _, _, .loc e => by simpa [Va.low] using (List.getElem?_eq_some_iff.mp e).1
  | _, _, .scr q => by simp [Va.low]
  | _, _, .tup q r => by simpa [Va.low] using rps_low r
  | _, _, .dct e q => by simp [Va.low]
  | _, _, .exc e q => by simp [Va.low]
theorem rps_low {M : Hp} {al : List Addr} : ∀ {v : List V} {w : List Va}, Rps K mg M al v w → lows al.length w = true
  | _, _, .nil => by simp [lows]
  | _, _, .cons a b => by simp [lows, rp_low a, rps_low b]
end
mutual
theorem low_rp {M M' : Hp} {al be : List Addr} (h : Le M M') : ∀ {v : V} {w : Va}, Rp K mg M (al ++ be) v w → w.low al.length = true → Rp K mg M' al v w
  | _, _, .d q, _ => .d (Dq.le h q)
  | _, _, .loc (n := n) e, l => by
    have l : n < al.length := by simpa [Va.low] using l
    exact .loc (by rw [List.getElem?_append_left l] at e; exact e)
  | _, _, .scr q, _ => .scr (SqL.le h q)
  | _, _, .tup q r, l => .tup (h _ _ q) (low_rps h r (by simpa [Va.low] using l))
  | _, _, .dct e q, _ => .dct (h _ _ e) (KDp.le h q)
  | _, _, .exc e q, _ => .exc (h _ _ e) (ExR.le h q)
theorem low_rps {M M' : Hp} {al be : List Addr} (h : Le M M') : ∀ {v : List V} {w : List Va}, Rps K mg M (al ++ be) v w → lows al.length w = true → Rps K mg M' al v w
  | _, _, .nil, _ => .nil
  | _, _, .cons (b := w) (l₂ := ws) a b, l => by
    have l : w.low al.length = true ∧ lows al.length ws = true := by simpa [lows] using l
    exact .cons (low_rp h a l.1) (low_rps h b l.2)
end
theorem pall {α β : Type} {F : α → β → Prop} {p : β → Bool} (h : ∀ a b, F a b → p b = true) : ∀ {xs : List α} {ys : List β}, Paired F xs ys → ys.all p = true
  | _, _, .nil => rfl
  | _, _, .cons a b => by simp only [List.all_cons, Bool.and_eq_true]; exact ⟨h _ _ a, pall h b⟩
theorem pmapall {α β : Type} {F G : α → β → Prop} {p : β → Bool} (h : ∀ a b, F a b → p b = true → G a b) : ∀ {xs : List α} {ys : List β}, Paired F xs ys → ys.all p = true → Paired G xs ys
  | _, _, .nil, _ => .nil
  | _, _, .cons a b, l => by
    simp only [List.all_cons, Bool.and_eq_true] at l
    exact .cons (h _ _ a l.1) (pmapall h b l.2)
theorem ob_low {M H : Hp} {al : List Addr} {a : Addr} : ∀ {o : Ob}, ObR K mg M al H a o → o.low al.length = true
  | .lst ws, ⟨vs, e, r⟩ => rps_low r
  | .di kvs, ⟨ks, e, r⟩ => pall (fun _ _ q => rp_low q.2) r
  | .dt kvs, ⟨ks, e, r⟩ => pall (fun _ _ q => rp_low q.2) r
  | .ins c fs, ⟨C, dx, ks, e1, e2, r⟩ => pall (fun _ _ q => rp_low q.2) r
theorem low_ob {M M' H : Hp} {al be : List Addr} (h : Le M M') {a : Addr} : ∀ {o : Ob}, ObR K mg M (al ++ be) H a o → o.low al.length = true → ObR K mg M' al H a o
  | .lst ws, ⟨vs, e, r⟩, l => ⟨vs, e, low_rps h r l⟩
  | .di kvs, ⟨ks, e, r⟩, l => ⟨ks, e, pmapall (fun _ _ q n => ⟨q.1, low_rp h q.2 n⟩) r l⟩
  | .dt kvs, ⟨ks, e, r⟩, l => ⟨ks, e, pmapall (fun _ _ q n => ⟨q.1, low_rp h q.2 n⟩) r l⟩
  | .ins c fs, ⟨C, dx, ks, e1, e2, r⟩, l => ⟨C, dx, ks, e1, e2, pmapall (fun _ _ q n => ⟨q.1, low_rp h q.2 n⟩) r l⟩
end
def Kept (L L' : LH) : Prop := ∀ n, n < L.length → L'[n]? = L[n]? ∨ ∃ o, L'[n]? = some (some o) ∧ o.low L.length = true
theorem kept_app (L g : LH) : Kept L (L ++ g) := fun n h => .inl (List.getElem?_append_left h)
@[simp] theorem kept_app' (L g : LH) : Kept L (L ++ g) ↔ True := iff_true_intro (kept_app L g)
@[simp] theorem kept_self (L : LH) : Kept L L ↔ True := iff_true_intro fun n h => .inl rfl
def mapO {α β : Type} (f : α → Option β) : List α → Option (List β)
  | [] => some []
  | a :: r => match f a with
    | some b => match mapO f r with
      | some bs => some (b :: bs)
      | none => none
    | none => none
def settle (L : LH) (n0 : Nat) : Nat → Va → Option Va
  | 0, w => match w with
    | .d x => some (.d x)
    | _ => none
  | k + 1, w => match w with
    | .d x => some (.d x)
    | .loc n => if n < n0 then some (.loc n) else match L[n]? with
      | some (some (.lst ws)) => match mapO (settle L n0 k) ws with
        | some us => (datas us).map fun xs => .d (.list xs)
        | none => none
      | some (some (.di kvs)) => match mapO (fun p : Int × Va => match settle L n0 k p.2 with
            | some (.d x) => some (p.1, x)
            | _ => none) kvs with
        | some ks => some (.dct ks)
        | none => none
      | _ => none
    | .tup ws => match mapO (settle L n0 k) ws with
      | some us => some (mkTup us)
      | none => none
    | w => some w
def settleO (L : LH) (n0 : Nat) (k : Nat) : Ob → Option Va
  | .lst ws => match mapO (settle L n0 k) ws with
    | some us => (datas us).map fun xs => .d (.list xs)
    | none => none
  | .di kvs => match mapO (fun p : Int × Va => match settle L n0 k p.2 with
        | some (.d x) => some (p.1, x)
        | _ => none) kvs with
    | some ks => some (.dct ks)
    | none => none
  | _ => none
theorem settle_loc (L : LH) (n0 k n : Nat) : settle L n0 (k + 1) (.loc n) = if n < n0 then some (.loc n) else match L[n]? with
    | some (some o) => settleO L n0 k o
    | _ => none := by
  conv => lhs; unfold settle
  by_cases h : n < n0
  · simp [h]
  · simp only [h, if_false]
    cases e : L[n]? with
    | none => rfl
    | some o =>
      cases o with
      | none => rfl
      | some o => cases o <;> rfl
@[simp] theorem settle_d (L : LH) (n0 k : Nat) (x : PyData) : settle L n0 k (.d x) = some (.d x) := by cases k <;> rfl
theorem mapO_settle_d (L : LH) (n0 k : Nat) : ∀ xs : List PyData, mapO (settle L n0 k) (xs.map Va.d) = some (xs.map Va.d)
  | [] => rfl
  | x :: xs => by simp [mapO, mapO_settle_d L n0 k xs]
@[simp] theorem settleO_d (L : LH) (n0 k : Nat) (xs : List PyData) : settleO L n0 k (.lst (xs.map Va.d)) = some (.d (.list xs)) := by simp [settleO, mapO_settle_d]
section
variable {K : PySem.W.Frag} {mg : Str → Option Value} {H H' : Hp} {al al' T be : List Addr} {L L' : LH}
theorem mapO_rps {M M' : Hp} {f : Va → Option Va} {al al' : List Addr} (hf : ∀ v w u, Rp K mg M al v w → f w = some u → Rp K mg M' al' v u) : ∀ {vs : List V} {ws us : List Va}, Rps K mg M al vs ws → mapO f ws = some us → Rps K mg M' al' vs us
  | _, _, us, .nil, e => by cases e; exact .nil
  | _, _, us, .cons (b := w) (l₂ := ws) a b, e => by
    unfold mapO at e
    split at e
    · rename_i u e1
      split at e
      · rename_i us' e2
        cases e
        exact .cons (hf _ _ _ a e1) (mapO_rps hf b e2)
      · cases e
    · cases e
theorem mask_more (H : Hp) (al be T : List Addr) : Le (mask H ((al ++ be) ++ T)) (mask H (al ++ T)) := fun b o e => by
  obtain ⟨n, e⟩ := of_mask e
  refine mask_of (fun z => n ?_) e
  simp only [List.mem_append] at z ⊢
  rcases z with z | z
  · exact .inl (.inl z)
  · exact .inr z
theorem settle_ok {L0 : LH} (r0 : al.length = L0.length) (r : Rel K mg H' (al ++ be) T L') : ∀ (k : Nat), (∀ (v : V) (w u : Va), Rp K mg (mask H' ((al ++ be) ++ T)) (al ++ be) v w → settle L' L0.length k w = some u → Rp K mg (mask H' (al ++ T)) al v u) ∧
    (∀ (a : Addr) (o : Ob) (u : Va), a ∉ al → a ∉ T → ObR K mg (mask H' ((al ++ be) ++ T)) (al ++ be) H' a o → settleO L' L0.length k o = some u → Rp K mg (mask H' (al ++ T)) al (.ref a) u) := by
  have m := mask_more H' al be T
  have hO : ∀ k, (∀ (v : V) (w u : Va), Rp K mg (mask H' ((al ++ be) ++ T)) (al ++ be) v w → settle L' L0.length k w = some u → Rp K mg (mask H' (al ++ T)) al v u) →
      (∀ (a : Addr) (o : Ob) (u : Va), a ∉ al → a ∉ T → ObR K mg (mask H' ((al ++ be) ++ T)) (al ++ be) H' a o → settleO L' L0.length k o = some u → Rp K mg (mask H' (al ++ T)) al (.ref a) u) := by
    intro k ih a o u na nT q e
    have hn : a ∉ al ++ T := by simp [na, nT]
    cases o with
    | lst ws =>
      obtain ⟨vs, h1, h2⟩ := q
      simp only [settleO] at e
      split at e
      · rename_i us e1
        cases e5 : datas us with
        | none => rw [e5] at e; cases e
        | some xs =>
          rw [e5] at e
          cases e
          have h3 := mapO_rps ih h2 e1
          rw [datas_eq e5] at h3
          exact .d (.lst (mask_of hn h1) (dq_all h3))
      · cases e
    | di kvs =>
      obtain ⟨ks, h1, h2⟩ := q
      simp only [settleO] at e
      split at e
      · rename_i us e1
        cases e
        refine .dct (mask_of hn h1) ?_
        have go : ∀ {ks : List (Key × V)} {kvs : List (Int × Va)} {us : List (Int × PyData)}, KRp K mg (mask H' ((al ++ be) ++ T)) (al ++ be) ks kvs → mapO (fun p : Int × Va => match settle L' L0.length k p.2 with
            | some (.d x) => some (p.1, x)
            | _ => none) kvs = some us → KDp (mask H' (al ++ T)) ks us := by
          intro ks kvs us h
          induction h generalizing us with
          | nil => intro e; cases e; exact .nil
          | @cons p q ps qs h1 _ ih2 =>
            intro e
            unfold mapO at e
            split at e
            · rename_i b e2
              split at e
              · rename_i bs e3
                cases e
                split at e2
                · rename_i x e4
                  cases e2
                  have h5 := ih _ _ _ h1.2 e4
                  exact .cons ⟨h1.1, rp_d h5⟩ (ih2 e3)
                · cases e2
              · cases e
            · cases e
        exact go h2 e1
      · cases e
    | dt _ => cases e
    | ins _ _ => cases e
  intro k
  induction k with
  | zero =>
    have h0 : ∀ (v : V) (w u : Va), Rp K mg (mask H' ((al ++ be) ++ T)) (al ++ be) v w → settle L' L0.length 0 w = some u → Rp K mg (mask H' (al ++ T)) al v u := by
      intro v w u q e
      cases q with
      | d q => cases e; exact .d (Dq.le m q)
      | loc _ => cases e
      | tup _ _ => cases e
      | dct _ _ => cases e
      | exc _ _ => cases e
      | scr _ => cases e
    exact ⟨h0, hO 0 h0⟩
  | succ k ih =>
    have h0 : ∀ (v : V) (w u : Va), Rp K mg (mask H' ((al ++ be) ++ T)) (al ++ be) v w → settle L' L0.length (k + 1) w = some u → Rp K mg (mask H' (al ++ T)) al v u := by
      intro v w u q e
      cases q with
      | d q => cases e; exact .d (Dq.le m q)
      | @loc n a e1 =>
        rw [settle_loc] at e
        split at e
        · rename_i hlt
          cases e
          exact .loc (by rw [List.getElem?_append_left (by omega)] at e1; exact e1)
        · rename_i hlt
          split at e
          · rename_i o e2
            obtain ⟨b, e3, q3⟩ := r.cell n o e2
            rw [e1] at e3; cases e3
            have ha : a ∈ be := by
              rw [List.getElem?_append_right (by omega)] at e1
              exact List.mem_of_getElem? e1
            have na : a ∉ al := fun z => (List.nodup_append.mp r.nd).2.2 a z a ha rfl
            exact ih.2 a o u na (r.dis a (List.mem_append_right _ ha)) q3 e
          · cases e
      | tup e1 e2 =>
        simp only [settle] at e
        split at e
        · rename_i us e3
          cases e
          exact rp_mkTup (m _ _ e1) (mapO_rps ih.1 e2 e3)
        · cases e
      | dct e1 e2 => cases e; exact .dct (m _ _ e1) (KDp.le m e2)
      | exc e1 e2 => cases e; exact .exc (m _ _ e1) (ExR.le m e2)
      | scr e1 => cases e; exact .scr (SqL.le m e1)
    exact ⟨h0, hO (k + 1) h0⟩
theorem exitS (r0 : Rel K mg H al T L) (s : Stp K mg H al T L H' al' T L') (hk : Kept L L') : Stp K mg H al T L H' al T (L'.take L.length) := by
  obtain ⟨be, e, f⟩ := s.ext
  subst e
  have r := s.rel
  have hl : L.length ≤ L'.length := by have := r.len; have := r0.len; simp at *; omega
  have tk : ∀ n, n < L.length → (L'.take L.length)[n]? = L'[n]? := fun n hn => by rw [List.getElem?_take_of_lt hn]
  refine ⟨⟨by rw [List.length_take, r0.len]; omega, r0.nd, r0.dis, fun a h => r.trk a (h.imp (List.mem_append_left _) id), fun n o en => ?_⟩, ⟨[], by simp, fun _ z => nomatch z⟩, ⟨[], by simp, fun _ z => nomatch z⟩, s.frame, s.stay, fun n en => ?_, fun n o en => ?_⟩
  · have hn : n < L.length := by
      have := (List.getElem?_eq_some_iff.mp en).1
      rw [List.length_take] at this; omega
    rw [tk n hn] at en
    obtain ⟨a, e1, q⟩ := r.cell n o en
    have e1' : al[n]? = some a := by rw [List.getElem?_append_left (by rw [r0.len]; exact hn)] at e1; exact e1
    have lo : o.low al.length = true := by
      rcases hk n hn with z | ⟨o', z, l⟩
      · rw [en] at z
        obtain ⟨b, e2, q2⟩ := r0.cell n o z.symm
        exact ob_low q2
      · rw [en] at z
        cases z
        rw [r0.len]; exact l
    exact ⟨a, e1', low_ob (mask_more H' al be T) q lo⟩
  · rw [tk n (List.getElem?_eq_some_iff.mp en).1]; exact s.lck n en
  · rw [tk n (List.getElem?_eq_some_iff.mp en).1]; exact s.alv n o en
end
open Classical in
noncomputable def outV (L L' : LH) : Option Va → Res Va
  | some w => if Kept L L' then .ok w (L'.take L.length) else .stuck
  | none => .stuck
open Classical in
noncomputable def mkFn (np nl : Nat) (body : SFn) : Fn := fun ws L => if ws.length = np then match body (ws.map some ++ List.replicate (nl - ws.length) none) L with
    | .nx _ L' => outV L L' (some (.d .none))
    | .rt w L' => outV L L' (settle L' L.length 9 w)
    | .rf o L' => outV L L' (settleO L' L.length 9 o)
    | .exc c f _ L' => if Kept L L' then .exc c f (L'.take L.length) else .stuck
    | _ => .stuck
  else .stuck
def NP (np : Nat) (F : Fn) : Prop := ∀ ws L, ws.length ≠ np → F ws L = .stuck
theorem np_mk {np nl : Nat} {body : SFn} : NP np (mkFn np nl body) := fun ws L h => by unfold mkFn; rw [if_neg h]
def NPost (K : PySem.W.Frag) (mg : Str → Option Value) (H : Hp) (al T : List Addr) (L : LH) (r : Res Va) (Q : VK) (E : XK) : Prop := match r with
  | .ok w L' => ∀ v H' al', Stp K mg H al T L H' al' T L' → Rp K mg (mask H' (al' ++ T)) al' v w → Q v H'
  | .exc c f L' => ∀ cls d H' al', Stp K mg H al T L H' al' T L' → ExR mg (mask H' (al' ++ T)) c f cls d → E cls d H'
  | .stuck => False
def spOf (K : PySem.W.Frag) (mg : Str → Option Value) (np : Nat) (F : Fn) : Sp := fun vs H Q E => vs.length = np ∧ ∃ ws al T L, Rel K mg H al T L ∧ Rps K mg (mask H (al ++ T)) al vs ws ∧ NPost K mg H al T L (F ws L) Q E
theorem conf_start {K : PySem.W.Frag} {mg : Str → Option Value} {N : List Str} {H : Hp} {al T : List Addr} {L : LH} {vs : List V} {ws : List Va} (r : Rel K mg H al T L) (rs : Rps K mg (mask H (al ++ T)) al vs ws) (hl : vs.length ≤ N.length) :
    Conf K mg (L2.start N vs) H (ws.map some ++ List.replicate (N.length - ws.length) none) L al T := by
  have e := Paired.length rs
  refine ⟨r, ?_, fun i w h => ?_⟩
  · unfold L2.start
    simp only [List.length_append, List.length_map, List.length_replicate]
    omega
  · have hi : i < ws.length := by
      by_cases hi : i < ws.length
      · exact hi
      · rw [List.getElem?_append_right (by simpa using hi), List.getElem?_replicate] at h
        split at h <;> cases h
    rw [List.getElem?_append_left (by simpa using hi), List.getElem?_map] at h
    cases e2 : ws[i]? with
    | none => rw [e2] at h; cases h
    | some u =>
      rw [e2] at h
      cases h
      have go : ∀ {vs : List V} {ws : List Va} {i : Nat}, Rps K mg (mask H (al ++ T)) al vs ws → ws[i]? = some w → ∃ v, vs[i]? = some v ∧ Rp K mg (mask H (al ++ T)) al v w := by
        intro vs ws i h
        induction h generalizing i with
        | nil => intro e; simp at e
        | @cons v u vs us a b ih =>
          intro e
          cases i with
          | zero => simp at e; subst e; exact ⟨v, rfl, a⟩
          | succ i => exact ih (by simpa using e)
      obtain ⟨v, h1, h2⟩ := go rs e2
      refine ⟨v, ?_, h2⟩
      unfold L2.start
      rw [List.getElem?_append_left (by simpa using (List.getElem?_eq_some_iff.mp h1).1), List.getElem?_map, h1]
      rfl
structure FnG (P : Program) (w : World) (K : PySem.W.Frag) (mg : Str → Option Value) (base : Heap) (CX : CXT) (k : Nat) (f : Addr) (fd : FuncData) (ps : List Str) (sp : Sp) : Prop where
  ln : ∀ us H Q E, sp us H Q E → us.length = ps.length
  go : ∀ (A : Around) (out : List Env) (s : Shared) (H : Hp) (ar : Args) (us : List Value) (vs : List V) (Q : VK) (E : XK), A.guards = some [] → Room k A →
    Env0 P w K mg base A out s H → BindsTo s fd ar (ps.zip us) → Vals vs us → sp vs H Q E → codeAny (model P w) A (.call (.ref f) ar) (CR CX out P w H s Q E) s
theorem FnG.more {P : Program} {w : World} {K : PySem.W.Frag} {mg : Str → Option Value} {base : Heap} {CX : CXT} {i k : Nat} {f : Addr} {fd : FuncData} {ps : List Str} {sp : Sp}
    (F : FnG P w K mg base CX i f fd ps sp) (h : i ≤ k) : FnG P w K mg base CX k f fd ps sp :=
  ⟨F.ln, fun A out s H ar us vs Q E hg hr => F.go A out s H ar us vs Q E hg (hr.mono h)⟩
theorem fnG_of {CX : CXT} {P : Program} {w : World} {K : PySem.W.Frag} {mg : Str → Option Value} {base : Heap} {k : Nat} {f : Addr} {nm qual : Str} {pars : Arguments} {body : List Stmt} {sc : Scope}
    {dvs : List V} {kws : List (Str × V)} {fd : FuncData} {N ps : List Str} {sp : Sp} (F : FunD K nm qual pars body sc dvs kws f fd) (S : FnScope N ps sc)
    (ln : ∀ us H Q E, sp us H Q E → us.length = ps.length)
    (hb : ∀ (cd : Value) (A : Around) (out : List Env) (s : Shared) (H : Hp) (vs : List V) (Q : VK) (E : XK), A.guards = some [] → Room k (A.deeper (envOfC qual sc s.heap.objs.size f cd)) → sp vs H Q E →
      ∃ t, PSs (cxOf CX P w K mg base N qual sc f cd A out s H E) body t ∧ t { nx := fun _ H1 => Q .non H1, rt := Q } (L2.start N vs) H) :
    FnG P w K mg base CX (k + 1) f fd ps sp := by
  obtain ⟨oc, od, dV, kV, doc, pm, an, cd, ct, osl, rfl, lk, hcode, _, _⟩ := F.ex
  refine ⟨ln, ?_⟩
  intro A out s H ar us vs Q E hg hr en bt rv hsp
  have kin : K.In s.heap := en.mod.kin.keeps fun b o z => (en.bs b o z).1
  have nl : s.heap.NoLimit := en.mod.nolimit.keeps fun b o z => (en.bs b o z).1
  have hk : ∀ z ∈ ps.zip us, sc.names.lookup z.1 = some .local ∨ (sc.names.lookup z.1 = some .cell ∧ ((cellsFrom (s.heap.objs.size + 1) sc.names []).lookup z.1).isSome = true) := by
    rintro ⟨n, v⟩ hz
    exact (S.par n (List.of_mem_zip hz).1).imp id fun q => ⟨q, PySem.W.cellsFrom_some _ _ _ (.inl q)⟩
  refine codeAny_call_function hr.depth (kin _ _ lk) rfl S.co S.gen rfl (PySem.W.codeRec_of kin hcode) (bt _ _ _ _ ?_)
  refine wpAny_newFunctionEnv_cells S.kind hk fun env ee s1 fresh => ?_
  subst ee
  refine ⟨nl.keeps fresh.toInCall.keep, codeAny_func ?_⟩
  obtain ⟨t, run, start⟩ := hb cd A out s H vs Q E hg (hr.deeper _) hsp
  have inv := inv_start (E := E) (CX := CX) S hr.hd en (ln _ _ _ _ hsp) rv fresh
  refine wpAny_mono (run.run [] s1 (L2.start N vs) H _ inv start) (fun fl s2 z => ?_) fun _ _ z => z
  match fl, z with
  | .ret u, ⟨v, σ2, H2, J, r2, q⟩ => exact ⟨v, H2, J.os, J.bare, J.base, J.hok, r2, q⟩
  | .next, ⟨σ2, H2, J, q⟩ => exact ⟨.non, H2, J.os, J.bare, J.base, J.hok, rfl, q⟩
  | .brk, ⟨_, _, _, q⟩ => exact q.elim
  | .cont, ⟨_, _, _, q⟩ => exact q.elim
theorem run_fnG {X : Cx} {CX : CXT} {k : Nat} {f : Addr} {fd : FuncData} {ps : List Str} {sp : Sp} {E : St → XK} {pins : List (Addr × Obj)} {σ : St} {H : Hp} {s : Shared} {Q : VK} {us : List Value} {vs : List V}
    (F : FnG X.prog X.w X.K X.mg X.base CX k f fd ps sp) (hg : X.A.guards = some []) (hr : Room k X.A) (hb : Binds X.K fd ps []) (hx : PassesAt CX X σ (E σ)) (I : Inv X pins σ H s) (rv : Vals vs us) (h : sp vs H Q (E σ)) :
    wpAny (model X.prog X.w) X.A (call (.ref f) us) (EP X pins σ Q) X.xe s := by
  have bt : BindsTo s fd ⟨us, []⟩ (ps.zip us) := by
    have z := hb s us I.kIn (by rw [List.append_nil, ← rv.length]; exact F.ln _ _ _ _ h)
    rwa [List.append_nil] at z
  refine wpAny_call (codeAny_mono (F.go X.A X.stack s H ⟨us, []⟩ us vs Q (E σ) hg hr I.env0 bt rv h) ?_)
  intro r s2 z
  match r, z with
  | .error e, z => exact hx pins H s e s2 I z
  | .ok (.ret u), z => exact I.after z
  | .ok .next, z => exact z.elim
  | .ok .brk, z => exact z.elim
  | .ok .cont, z => exact z.elim
section
variable {P : Program} {w : World} {K : PySem.W.Frag} {mg : Str → Option Value} {base : Heap} {x qual : Str} {params : Arguments} {body : List Stmt} {scope : Scope} {dvs : List V} {kws : List (Str × V)} {f : Addr} {fd : FuncData}
abbrev WxE (E : XK) : WX := fun cls d _ H => E cls d H
theorem body_end {K : PySem.W.Frag} {mg : Str → Option Value} {H : Hp} {al T : List Addr} {L : LH} {X : Cx} (hK : X.K = K) (hmg : X.mg = mg) {Q : VK} {E : XK} {np nl : Nat} {bf : SFn} {ws : List Va} (r0 : Rel K mg H al T L) (hl : ws.length = np)
    (h : NPost K mg H al T L (mkFn np nl bf ws L) Q E) : SPost X (WxE E) H al T L (bf (ws.map some ++ List.replicate (nl - ws.length) none) L) { nx := fun _ H' => Q .non H', rt := Q } := by
  subst hK hmg
  unfold mkFn at h
  rw [if_pos hl] at h
  revert h
  generalize bf (ws.map some ++ List.replicate (nl - ws.length) none) L = r
  intro h
  have one : ∀ (o : Option Va) (L' : LH) (v : V) (H' : Hp) (al' : List Addr), NPost X.K X.mg H al T L (outV L L' o) Q E → Stp X.K X.mg H al T L H' al' T L' → (∀ u be, al' = al ++ be → o = some u → Rp X.K X.mg (mask H' (al ++ T)) al v u) → Q v H' := by
    intro o L' v H' al' h s k
    cases o with
    | none => exact h.elim
    | some u =>
      simp only [outV] at h
      split at h
      · rename_i hk
        obtain ⟨be, e, _⟩ := s.ext
        exact h v H' al (exitS r0 s hk) (k u be e rfl)
      · exact h.elim
  cases r with
  | nx env' L' => exact fun σ' H' al' s c => one _ L' .non H' al' h s fun u be e eu => by cases eu; exact .d .non
  | rt u L' =>
      intro v H' al' s q
      refine one _ L' v H' al' h s fun u' be e eu => ?_
      subst e
      exact (settle_ok r0.len s.rel 9).1 v u u' q eu
  | rf o L' =>
      intro a H' al' ha s q
      have s' := Stp.drop (te := [a]) (fun b hb => by have : b = a := by simpa using hb
                                                      rw [this]; exact ha) s
      refine one _ L' (.ref a) H' al' h s' fun u' be e eu => ?_
      subst e
      have n := r0.fresh ha
      refine (settle_ok r0.len s'.rel 9).2 a o u' n.1 n.2 ?_ eu
      have m : Le (mask H' ((al ++ be) ++ (a :: T))) (mask H' ((al ++ be) ++ T)) := fun b u e => by
        obtain ⟨n, e⟩ := of_mask e
        exact mask_of (fun z => n (by simp only [List.mem_append, List.mem_cons] at z ⊢; exact z.imp id .inr)) e
      exact ObR.le m (ALe.refl _) (fun _ z => z) q
  | bk _ _ => exact h.elim
  | ct _ _ => exact h.elim
  | exc c f env' L' =>
    intro cls d σ' H' al' s _ q
    simp only at h
    split at h
    · rename_i hk
      obtain ⟨be, e, _⟩ := s.ext
      subst e
      exact h cls d H' al (exitS r0 s hk) (ExR.le (mask_more H' al be T) q)
    · exact h.elim
  | stuck => exact h.elim
theorem fn_body (F : FunD K x qual params body scope dvs kws f fd) {N ps : List Str} {k np nl : Nat} {bf : SFn} (S : FnScope N ps scope) (hnp : ps.length = np) (hnl : N.length = nl) (hle : np ≤ nl)
    (hb : ∀ (cdv : Value) (A : Around) (outer : List Env) (s : Shared) (H : Hp) (E : XK), A.guards = some [] → Room k (A.deeper (envOfC qual scope s.heap.objs.size f cdv)) → SB (cxOf (L2.CX P w) P w K mg base N qual scope f cdv A outer s H E) (WxE E) body bf) :
    FnG P w K mg base (L2.CX P w) (k + 1) f fd ps (spOf K mg np (mkFn np nl bf)) := by
  refine fnG_of F S (fun vs H Q E h => by rw [h.1, hnp]) (fun cdv A outer s H vs Q E hg hr h => ⟨_, hb cdv A outer s H E hg hr, ?_⟩)
  obtain ⟨hl, ws, al, T, L, r, rs, h⟩ := h
  have e := Paired.length rs
  subst hnl
  refine ⟨_, L, al, T, conf_start r rs (by omega), ?_⟩
  exact body_end (X := cxOf (L2.CX P w) P w K mg base N qual scope f cdv A outer s H E) rfl rfl r (by omega) h
end
section
variable {X : Cx} {Wx : WX} {k : Nat} {f : Addr} {fd : FuncData} {ps : List Str} {np : Nat} {F : Fn} {x : Str} {p pos : Pos} {e : Expr} {es : List Expr} {fs : En → LH → Res (List Va)}
def eCall (F : Fn) (fs : En → LH → Res (List Va)) : EF := fun env L => (fs env L).bind F
theorem call_sp {σ : St} {H : Hp} {Q : VK} (n : NP np F) (h : Rdg X Wx (RV X) (eCall F fs) σ H Q) : tCallS (spOf X.K X.mg np F) (WE Wx) (Rdg X Wx (RVs X) fs) σ H Q := by
  obtain ⟨env, L, al, T, c, q⟩ := h
  refine rseq (R := RVs X) c q fun vs H1 ws L1 al1 c1 s1 r1 q1 => ?_
  have hl : ws.length = np := by
    by_cases z : ws.length = np
    · exact z
    · rw [n ws L1 z] at q1; exact q1.elim
  refine ⟨by rw [Paired.length r1, hl], ws, al1, T, L1, c1.rel, r1, ?_⟩
  revert q1
  generalize F ws L1 = r
  intro q1
  cases r with
  | ok w L2 => exact fun v H' al' s q => q1 v H' al' s q
  | exc c f L2 => exact fun cls d H' al' s q => q1 cls d H' al' s q
  | stuck => exact q1
theorem pe_callG {sp : Sp} {E : St → XK} {t : TA} (G : FnG X.prog X.w X.K X.mg X.base (L2.CX X.prog X.w) k f fd ps sp) (hg0 : X.A.guards = some []) (hr : Room k X.A) (hg : Gl X x) (hm : X.mg x = some (.ref f)) (hk : PySem.W.keepIn X.K (.ref f) = true)
    (hb : Binds X.K fd ps []) (hx : ∀ σ, PassesAt (L2.CX X.prog X.w) X σ (E σ)) (ha : PA X (e :: es) t) (hdb : (x == ("__debug__" : Str)) = false) (he : starEach (e :: es) X.env = (false, eval e X.env) :: starEach es X.env)
    (hpl : (backTo pos (starEach es X.env)).any (·.1) = false) : PE X (.Call (.Name x p) (e :: es) [] pos) (tCallS sp E t) := by
  refine ⟨fun pins s σ H Q I h => wpAny_Call_Name_kw (ld_glob I hg hm ?_ hdb)⟩
  exact PySem.W.callWith_K (h₀ := X.base) I.ok.mod.kin hk (thn (ha.run pos pins s σ H _ I h) fun us s1 ⟨vs, H1, I1, r, q⟩ => ⟨I1.kIn, run_fnG G hg0 hr hb (hx σ) I1 r q⟩) he hpl
theorem se_call (G : FnG X.prog X.w X.K X.mg X.base (L2.CX X.prog X.w) k f fd ps (spOf X.K X.mg np F)) (n : NP np F) (tk : Takes X Wx) (hg0 : X.A.guards = some []) (hr : Room k X.A) (hg : Gl X x) (hm : X.mg x = some (.ref f)) (hk : PySem.W.keepIn X.K (.ref f) = true) (hb : Binds X.K fd ps [])
    (ha : SA X Wx (e :: es) fs) (hdb : (x == ("__debug__" : Str)) = false := by decide) (he : starEach (e :: es) X.env = (false, eval e X.env) :: starEach es X.env := by rfl) (hpl : (backTo pos (starEach es X.env)).any (·.1) = false := by rfl) :
    SE X Wx (.Call (.Name x p) (e :: es) [] pos) (eCall F fs) :=
  PE.imp (pe_callG (E := WE Wx) G hg0 hr hg hm hk hb (fun σ => passAt tk σ) ha hdb he hpl) fun _ _ _ h => call_sp n h
end
end L2.HW
namespace L2.HW
open PySem PySem.Spec PyProof.Rows
section
variable {X : Cx} {Wx : WX}
def eMeth (chk : LH → Va → Bool) (g : Va → List Va → LH → Res Va) (fo : EF) (fs : En → LH → Res (List Va)) : EF := fun env L => (fo env L).bind fun w L1 => if chk L1 w then (fs env L1).bind fun ws L2 => g w ws L2 else .stuck
def OkM (X : Cx) (r : V → List V → Hp → VK → Prop) (g : Va → List Va → LH → Res Va) : Prop := ∀ (Wx : WX) (σ : St) (H : Hp) (al T : List Addr) (L : LH) (x : V) (xs : List V) (w : Va) (ws : List Va) (Q : VK), Rel X.K X.mg H al T L → RV X (mask H (al ++ T)) al x w → RVs X (mask H (al ++ T)) al xs ws →
  GPost X Wx σ H al T L (RV X) (g w ws L) Q → r x xs H Q
def OkTy (X : Cx) (T : String) (chk : LH → Va → Bool) : Prop := ∀ (H : Hp) (al U : List Addr) (L : LH) (x : V) (w : Va), Rel X.K X.mg H al U L → RV X (mask H (al ++ U)) al x w → chk L w = true → tyV X.K T x H
variable {o : Expr} {es : List Expr} {e : Expr} {fo : EF} {fs : En → LH → Res (List Va)} {name : Str} {apos cpos : Pos} {T id : String} {r : V → List V → Hp → VK → Prop} {chk : LH → Va → Bool} {g : Va → List Va → LH → Res Va}
theorem se_meth (pa : PlainAttrs T) (slot : Slot T name id) (hty : typeOf (.builtin id) = pure (.type "method_descriptor")) (hm : MtR X id r) (ok : OkM X r g) (ty : OkTy X T chk) (ho : SE X Wx o fo) (ha : SA X Wx (e :: es) fs)
    (hbase : attributeBase o name X.env (eval o X.env) = eval o X.env := by rfl)
    (hfew : ((backTo cpos (starEach (e :: es) X.env)).all (fun x => !x.1) && (backToKw cpos (keywordEach [] X.env)).all (fun x => x.1.isSome)
      && decide ((e :: es).length + ([] : List Keyword).length + (if ([] : List Keyword).isEmpty then 0 else 1) < 30)) = true := by rfl)
    (hline : (apos.endLine == cpos.line) = true := by rfl) (hs : starEach (e :: es) X.env = (false, eval e X.env) :: starEach es X.env := by rfl) (hplain : (backTo cpos (starEach es X.env)).any (·.1) = false := by rfl) :
    SE X Wx (.Call (.Attribute o name apos) (e :: es) [] cpos) (eMeth chk g fo fs) :=
  PE.imp (pe_bm pa slot hty hm ho ha hbase hfew hline hs hplain) fun σ H Q ⟨env, L, al, U, c, h⟩ => by
    refine rseq (R := RV X) c h fun v H1 w L1 al1 c1 s1 r1 h1 => ?_
    split at h1
    · rename_i hc
      refine ⟨ty H1 al1 U L1 v w c1.rel r1 hc, ?_⟩
      refine rseq (R := RVs X) c1 h1 fun vs H2 ws L2 al2 c2 s2 r2 h2 => ?_
      exact ok Wx σ H2 al2 U L2 v vs w ws Q c2.rel (s2.rp r1) r2 h2
    · exact h1.elim
theorem se_meth0 (pa : PlainAttrs T) (slot : Slot T name id) (hty : typeOf (.builtin id) = pure (.type "method_descriptor")) (hm : MtR X id r) (ok : OkM X r g) (ty : OkTy X T chk) (ho : SE X Wx o fo)
    (hbase : attributeBase o name X.env (eval o X.env) = eval o X.env := by rfl) (hline : (apos.endLine == cpos.line) = true := by rfl) :
    SE X Wx (.Call (.Attribute o name apos) [] [] cpos) (eMeth chk g fo aNil) :=
  PE.imp (pe_bm0 pa slot hty hm ho hbase hline) fun σ H Q ⟨env, L, al, U, c, h⟩ => by
    refine rseq (R := RV X) c h fun v H1 w L1 al1 c1 s1 r1 h1 => ?_
    split at h1
    · rename_i hc
      exact ⟨ty H1 al1 U L1 v w c1.rel r1 hc, ok Wx σ H1 al1 U L1 v [] w [] Q c1.rel r1 .nil h1⟩
    · exact h1.elim
def isLs : LH → Va → Bool := fun L w => match w with
  | .d (.list _) => true
  | .loc n => match L[n]? with
    | some (some (.lst _)) => true
    | _ => false
  | _ => false
theorem ty_list : OkTy X "list" isLs := by
  intro H al U L x w r q h
  unfold isLs at h
  split at h
  · obtain ⟨a, vs, rfl, sq, _⟩ := seq_ok r q (seq_list L _)
    cases q with
    | d q => cases q with | lst e1 e2 => exact .inl ⟨rfl, _, SqL.of (of_mask e1).2⟩
  · split at h
    · rename_i n ws e
      obtain ⟨a, vs, rfl, _, e3, _⟩ := loc_lst r q e
      exact .inl ⟨rfl, vs, SqL.of e3⟩
    · cases h
  · cases h
theorem gset {σ : St} {H : Hp} {al T : List Addr} {L : LH} {n : Nat} {a : Addr} {ws us : List Va} {vs : List V} {w : Va} {v : V} {Q : VK} (r : Rel X.K X.mg H al T L) (ea : al[n]? = some a) (e : L[n]? = some (some (.lst ws)))
    (h : GPost X Wx σ H al T L (RV X) (.ok w (L.set n (some (.lst us)))) Q) (rv : RVs X (mask H (al ++ T)) al vs us) (rw_ : RV X (mask H (al ++ T)) al v w) : Q v (upd H a (.lst vs)) := by
  have m : mask (upd H a (.lst vs)) (al ++ T) = mask H (al ++ T) := mask_in (List.mem_append_left _ (List.mem_of_getElem? ea))
  exact h v _ al (Rel.write r ea e ⟨vs, upd_same, rv⟩) (by rw [m]; exact rw_)
def mAppend : Va → List Va → LH → Res Va := fun w ws L => match w, ws with
  | .loc n, [v] => match L[n]? with
    | some (some (.lst us)) => if us.length < sizeLine then .ok (.d .none) (L.set n (some (.lst (us ++ [v])))) else .stuck
    | _ => .stuck
  | _, _ => .stuck
theorem ok_append : OkM X rAppend mAppend := by
  intro Wx σ H al T L x xs w ws Q r q qs h
  unfold mAppend at h
  split at h
  · rename_i n v
    split at h
    · rename_i us e
      split at h
      · rename_i hz
        obtain ⟨a, vs, rfl, ea, ha, rr⟩ := loc_lst r q e
        obtain ⟨y, rfl, qy⟩ := rps_1 qs
        exact ⟨a, vs, y, rfl, rfl, ha, by rw [Paired.length rr]; exact hz, gset r ea e h (rps_app rr (.cons qy .nil)) (.d .non)⟩
      · exact h.elim
    · exact h.elim
  · exact h.elim
theorem se_append (ho : SE X Wx o fo) (ha : SA X Wx [e] fs) (hbase : attributeBase o "append" X.env (eval o X.env) = eval o X.env := by rfl)
    (hfew : ((backTo cpos (starEach [e] X.env)).all (fun x => !x.1) && (backToKw cpos (keywordEach [] X.env)).all (fun x => x.1.isSome)
      && decide ([e].length + ([] : List Keyword).length + (if ([] : List Keyword).isEmpty then 0 else 1) < 30)) = true := by rfl)
    (hline : (apos.endLine == cpos.line) = true := by rfl) (hs : starEach [e] X.env = (false, eval e X.env) :: starEach [] X.env := by rfl) (hplain : (backTo cpos (starEach [] X.env)).any (·.1) = false := by rfl) :
    SE X Wx (.Call (.Attribute o "append" apos) [e] [] cpos) (eMeth isLs mAppend fo fs) :=
  se_meth PySem.F.plainAttrs_list PySem.F.slot_list_append PySem.F.type_list_append mt_append ok_append ty_list ho ha hbase hfew hline hs hplain
def mInsert : Va → List Va → LH → Res Va := fun w ws L => match w, ws with
  | .loc n, [.d (.int i), v] => match L[n]? with
    | some (some (.lst us)) => if us.length < sizeLine ∧ 0 ≤ i ∧ i < 2 ^ 63 then .ok (.d .none) (L.set n (some (.lst (us.take i.toNat ++ [v] ++ us.drop i.toNat)))) else .stuck
    | _ => .stuck
  | _, _ => .stuck
def mPop0 : Va → List Va → LH → Res Va := fun w ws L => match w, ws with
  | .loc n, [] => match L[n]? with
    | some (some (.lst us)) => match us[us.length - 1]? with
      | some u => .ok u (L.set n (some (.lst us.dropLast)))
      | none => .stuck
    | _ => .stuck
  | _, _ => .stuck
theorem rps_dropLast {M : Hp} {al : List Addr} {vs : List V} {ws : List Va} (h : RVs X M al vs ws) : RVs X M al vs.dropLast ws.dropLast := by
  rw [List.dropLast_eq_take, List.dropLast_eq_take, Paired.length h]
  exact rps_take _ h
theorem ok_pop0 : OkM X rPop mPop0 := by
  intro Wx σ H al T L x xs w ws Q r q qs h
  unfold mPop0 at h
  split at h
  · rename_i n
    split at h
    · rename_i us e
      split at h
      · rename_i u eu
        obtain ⟨a, vs, rfl, ea, ha, rr⟩ := loc_lst r q e
        cases qs
        obtain ⟨y, e2, q2⟩ := rps_get rr eu
        exact ⟨a, vs, y, rfl, rfl, ha, by rw [Paired.length rr]; exact e2, gset r ea e h (rps_dropLast rr) q2⟩
      · exact h.elim
    · exact h.elim
  · exact h.elim
def eNeg (f : EF) : EF := fun env L => (f env L).bind fun w L1 => match w with
  | .d (.int i) => .ok (.d (.int (-i))) L1
  | _ => .stuck
theorem se_neg {a : Expr} {f : EF} {pos : Pos} (h : SE X Wx a f) : SE X Wx (.UnaryOp .USub a pos) (eNeg f) :=
  PE.imp (pe_un un_neg h) fun σ H Q ⟨env, L, al, U, c, h⟩ => by
    refine rseq (R := RV X) c h fun v H1 w L1 al1 c1 s1 r1 h1 => ?_
    split at h1
    · rename_i i
      exact ⟨i, dq_int (rp_d r1), gok c1.rel h1 (.d (.int _))⟩
    · exact h1.elim
mutual
theorem dq_reads {pins : List (Addr × Obj)} {σ : St} {H : Hp} {s : Shared} (I : Inv X pins σ H s) : ∀ {v : V} {x : PyData} {u : Value}, Dq H v x → RelV v u → ∃ as, Reads s.heap u x as
  | _, _, _, .non, r => by cases r; exact ⟨_, .none⟩
  | _, _, _, .bl b, r => by cases r; exact ⟨_, .bool b⟩
  | _, _, _, .int i, r => by obtain ⟨t, rfl⟩ := r; exact ⟨_, .int i t⟩
  | _, _, _, .str x, r => by obtain ⟨t, rfl⟩ := r; exact ⟨_, .str x t⟩
  | _, _, _, .lst e q, r => by
    cases r
    obtain ⟨z, its, n, rv, hl, e2⟩ := I.lstM e
    obtain ⟨as, ra⟩ := dqs_reads I q rv
    exact ⟨_, .list e2 rfl rfl (by simpa using ra)⟩
  | _, _, _, .tup e q, r => by
    cases r
    obtain ⟨_, its, rv, o, e2, c, n, d⟩ := I.hok _ _ e
    obtain ⟨as, ra⟩ := dqs_reads I q rv
    exact ⟨_, .tuple e2 c d (by simpa using ra)⟩
theorem dqs_reads {pins : List (Addr × Obj)} {σ : St} {H : Hp} {s : Shared} (I : Inv X pins σ H s) : ∀ {v : List V} {x : List PyData} {u : List Value}, DqAll H v x → Vals v u → ∃ as, ReadsAll s.heap u x as
  | _, _, _, .nil, .nil => ⟨_, .nil⟩
  | _, _, _, .cons a b, .cons c d => by
    obtain ⟨_, h1⟩ := dq_reads I a c
    obtain ⟨_, h2⟩ := dqs_reads I b d
    exact ⟨_, .cons h1 h2⟩
end
mutual
theorem dq_noDict {H : Hp} : ∀ {v : V} {x : PyData}, Dq H v x → x.hasDict = false
  | _, _, .non => by simp [PyData.hasDict]
  | _, _, .bl b => by simp [PyData.hasDict]
  | _, _, .int i => by simp [PyData.hasDict]
  | _, _, .str x => by simp [PyData.hasDict]
  | _, _, .lst e q => by simp [PyData.hasDict, dqs_noDict q]
  | _, _, .tup e q => by simp [PyData.hasDict, dqs_noDict q]
theorem dqs_noDict {H : Hp} : ∀ {v : List V} {x : List PyData}, DqAll H v x → PyData.hasDictAll x = false
  | _, _, .nil => by simp [PyData.hasDictAll]
  | _, _, .cons a b => by simp [PyData.hasDictAll, dq_noDict a, dqs_noDict b]
end
def okShow (x : PyData) : Prop := x.showable = true ∧ x.depth < 180 ∧ x.shown.length ≤ sizeLine
def rRepr : List V → Hp → VK → Prop := fun xs H Q => ∃ v x, xs = [v] ∧ Dq H v x ∧ okShow x ∧ Q (.str x.shown) H
theorem call_reprD (hg : X.A.guards = some []) (hu : X.A.units + 200 < cLine) : CallR X (.builtin "repr") rRepr := by
  intro pins s σ H xs us Q I r h
  obtain ⟨v, x, rfl, dq, ⟨h1, h2, h3⟩, q⟩ := h
  obtain ⟨u, rfl, ru⟩ := Vals.one r
  cases dq with
  | non => cases ru; exact PySem.P.repr_of_none ⟨.str _, H, I.tok _, ⟨_, rfl⟩, q⟩
  | bl b => cases ru; exact PySem.P.repr_of_bool ⟨.str _, H, I.tok _, ⟨_, rfl⟩, q⟩
  | int i => obtain ⟨t, rfl⟩ := ru; exact PySem.P.repr_of_int (by simpa [PyData.showable] using h1) ⟨.str _, H, I.tok _, ⟨_, rfl⟩, q⟩
  | str z => obtain ⟨t, rfl⟩ := ru; exact PySem.P.repr_of_str ⟨.str _, H, I.tok _, ⟨_, rfl⟩, q⟩ (by simpa [PyData.shown] using h3)
  | lst e d =>
    cases ru
    obtain ⟨as, ra⟩ := dq_reads I (.lst e d) rfl
    exact PySem.repr_of_reads' ra h1 (PyData.noDict_hsm (dq_noDict (Dq.lst e d))) hg (by omega) (fun _ _ e => e) (fun h' u tk k => ⟨.str _, H, I.kept k, ⟨_, rfl⟩, q⟩) h3
  | tup e d =>
    cases ru
    obtain ⟨as, ra⟩ := dq_reads I (.tup e d) rfl
    exact PySem.repr_of_reads' ra h1 (PyData.noDict_hsm (dq_noDict (Dq.tup e d))) hg (by omega) (fun _ _ e => e) (fun h' u tk k => ⟨.str _, H, I.kept k, ⟨_, rfl⟩, q⟩) h3
open Classical in
noncomputable def cRepr : List Va → LH → Res Va := fun ws L => match ws with
  | [w] => match w.data L with
    | some x => if okShow x then .ok (.d (.str x.shown)) L else .stuck
    | none => .stuck
  | _ => .stuck
theorem ok_repr : OkC X rRepr cRepr := by
  intro Wx σ H al T L xs ws Q r q h
  unfold cRepr at h
  split at h
  · rename_i w
    obtain ⟨v, rfl, q1⟩ := rps_1 q
    split at h
    · rename_i x e
      split at h
      · rename_i hs
        exact ⟨v, x, rfl, data_ok r q1 e, hs, gok r h (.d (.str _))⟩
      · exact h.elim
    · exact h.elim
  · exact h.elim
end
end L2.HW
namespace HT
open PySem PySem.Spec PyProof.Rows
section
variable {prog : Program} {w : World} {A : Around} {E : Value → Shared → Prop} {s : Shared}
theorem revPlaces (n : Nat) : Builtin.Slice.slicePlaces ((n : Int) - 1) (-1) (-1) = n := by
  unfold Builtin.Slice.slicePlaces
  rw [if_neg (by decide)]
  by_cases h : (n : Int) - 1 > -1
  · rw [if_pos h, show (- -1 : Int) = 1 by decide, Int.ediv_one]; omega
  · rw [if_neg h]; omega
theorem revApplied {sl : Addr} {vs : Value} {n : Nat} {Q : Int × Int × Nat → Shared → Prop} (hs : s.heap.IsSliceOf sl .none .none vs) (ps : IsPart vs (some (-1))) (h : Q ((n : Int) - 1, -1, n) s) :
    wpAny (model prog w) A (Builtin.Slice.sliceApplied (.ref sl) (pure (n : Int))) Q E s := by
  obtain ⟨os, at_, cs, ds⟩ := id hs
  unfold Builtin.Slice.sliceApplied Builtin.Slice.sliceFields
  refine wpAny_bind (wpAny_bind (wpAny_field at_ ds (x := .none) rfl (wpAny_bind (wpAny_field at_ ds (x := .none) rfl (wpAny_bind (wpAny_field at_ ds (x := vs) rfl (wpAny_pure ?_)))))))
  refine wpAny_bind (slicePart_ ps ?_)
  show wpAny _ _ (if ((-1 : Int) == 0) = true then _ else _) _ _ s
  rw [if_neg (by decide)]
  refine wpAny_bind (slicePart_none (wpAny_bind (slicePart_none (wpAny_bind (wpAny_pure ?_)))))
  have e : Builtin.Slice.sliceAdjust none none (-1) (n : Int) = ((n : Int) - 1, -1) := rfl
  show wpAny _ _ (match Builtin.Slice.sliceAdjust none none (-1) (n : Int) with | (lo, hi) => pure (lo, (-1 : Int), Builtin.Slice.slicePlaces lo hi (-1))) _ _ s
  rw [e]
  show wpAny _ _ (pure ((n : Int) - 1, (-1 : Int), Builtin.Slice.slicePlaces ((n : Int) - 1) (-1) (-1))) _ _ s
  rw [revPlaces]
  exact wpAny_pure h
theorem revPick (xs : Array Value) : ((List.range xs.size).filterMap fun (m : Nat) => xs[((xs.size : Int) - 1 + (m : Int) * (-1)).toNat]?).toArray = xs.toList.reverse.toArray := by
  congr 1
  have go : ∀ (l : List Value) (f : Nat → Option Value), (∀ m, m < l.length → f m = l[m]?) → (List.range l.length).filterMap f = l := by
    intro l
    induction l with
    | nil => intro f _; rfl
    | cons a l ih =>
      intro f hf
      rw [List.length_cons, List.range_succ_eq_map, List.filterMap_cons, hf 0 (by simp), List.filterMap_map]
      show a :: _ = a :: l
      congr 1
      exact ih _ fun m hm => by show f (m + 1) = _; rw [hf (m + 1) (by simp; omega)]; rfl
  have := go xs.toList.reverse (fun (m : Nat) => xs[((xs.size : Int) - 1 + (m : Int) * (-1)).toNat]?) fun m hm => by
    rw [List.length_reverse] at hm
    have e : ((xs.size : Int) - 1 + (m : Int) * (-1)).toNat = xs.size - 1 - m := by have := hm; rw [Array.length_toList] at this; omega
    rw [List.getElem?_reverse hm]
    simp only [e]
    simp
  rwa [List.length_reverse, Array.length_toList] at this
theorem getItem_tuple_rev {t sl : Addr} {items : Array Value} {vs : Value} {Q : Value → Shared → Prop} (ht : IsTup s.heap t items) (hs : s.heap.IsSliceOf sl .none .none vs) (ps : IsPart vs (some (-1)))
    (h : Q (.ref s.heap.objs.size) { s with heap := s.heap.push { cls := .type "tuple", data := .seq items.toList.reverse.toArray } }) (hz : items.size ≤ sizeLine) :
    wpAny (model prog w) A (getItem (.ref t) (.ref sl)) Q E s := by
  have fits : sizeOk (.seq items.toList.reverse.toArray) := by
    show items.toList.reverse.toArray.size ≤ sizeLine
    rw [List.size_toArray, List.length_reverse, Array.length_toList]; exact hz
  obtain ⟨os, at_, cs, ds⟩ := id hs
  have isS : s.TypeIs (.ref sl) "slice" := ⟨os, at_, cs⟩
  unfold getItem
  try with_reducible refine wpAny_holding ?_
  first | refine wpAny_bind (wpAny_pure ?_) | skip
  refine wpAny_bind (wpAny_sequenceKey ht.typeIs (by decide) ?_)
  refine wpAny_bind (wpAny_callSpecial?_slot (name := Str.ofString "__getitem__") ht.typeIs PyProof.Rows.slot_tuple_getitem (wpAny_call_entry PyProof.Rows.slot_tuple_getitem ht.typeIs entry_tuple_getitem ?_ (args_tuple_getitem _ _)))
  show wpAny _ _ (Builtin.Tuple.tupleItemsOf (.ref t) >>= _) _ _ s
  refine wpAny_bind (tupleItemsOf_ ht (wpAny_bind (wpAny_typeOf isS ?_)))
  rw [if_pos (by decide)]
  refine wpAny_bind (revApplied hs ps ?_)
  have no : ¬ (((items.size : Int) - 1 == 0 && (-1 : Int) == 1 && items.size == items.size) = true) := by simp
  show wpAny _ _ (if ((items.size : Int) - 1 == 0 && (-1 : Int) == 1 && items.size == items.size) = true then _ else _) _ _ s
  rw [if_neg no, revPick]
  first
    | exact wpAny_bind (m := Builtin.Tuple.tupleExact _) (wpAny_newObj_type (wpAny_pure ⟨_, rfl, wpAny_pure h⟩) fits)
    | exact wpAny_bind (wpAny_bind (m := Builtin.Tuple.tupleExact _) (wpAny_newObj_type (wpAny_pure ⟨_, rfl, wpAny_pure h⟩) fits))
    | exact wpAny_bind (m := Builtin.Tuple.tupleExact _) (wpAny_newObj_type (wpAny_bind (wpAny_pure (wpAny_pure ⟨_, rfl, wpAny_pure h⟩))) fits)
end
end HT
namespace L2.HW
open PySem PySem.Spec PyProof.Rows
section
variable {X : Cx} {Wx : WX}
def tRevT (K : PySem.W.Frag) (te : TE) : TE := fun σ H Q => te σ H fun x H1 => ∃ a xs, x = .ref a ∧ ((SqL K H1 a xs ∧ ∀ p, H1 p = none → Q (.ref p) (upd H1 p (.lst xs.reverse))) ∨ (SqT K H1 a xs ∧ ∀ p, H1 p = none → Q (.ref p) (upd H1 p (.tup xs.reverse))))
theorem pe_rev {e : Expr} {te : TE} {k : Nat} {p1 p2 p3 pos : Pos} (he : PE X e te) : PE X (.Subscript e (.Slice none none (some (.UnaryOp .USub (.Constant (.int 1) k p1) p2)) p3) pos) (tRevT X.K te) := by
  refine ⟨fun pins s σ H Q I h => ?_⟩
  refine Subscript_ (thn (he.run pins s σ H _ I h) fun v s1 ⟨x, H1, I1, r1, q1⟩ => ?_)
  obtain ⟨a, xs, ex, hx⟩ := q1
  subst ex
  cases r1
  have step : PO X (some (.UnaryOp .USub (.Constant (.int 1) k p1) p2)) (tPart (tUn (rU fun i => .int (-i)) (tC (.int 1)))) := po_some (pe_un un_neg pe_int)
  refine wpAny_Slice (thn (po_none.run pins s1 σ H1 (fun o H2 => o = none ∧ H2 = H1) I1 ⟨rfl, rfl⟩) fun vl s2 ⟨l, H2, I2, pl, el, e2⟩ => ?_)
  subst el e2
  refine thn (po_none.run pins s2 σ H2 (fun o H3 => o = none ∧ H3 = H2) I2 ⟨rfl, rfl⟩) fun vu s3 ⟨u, H3, I3, pu, eu, e3⟩ => ?_
  subst eu e3
  refine thn (step.run pins s3 σ H3 (fun o H4 => o = some (-1) ∧ H4 = H3) I3 ⟨1, rfl, -1, rfl, rfl, rfl⟩) fun vs s4 ⟨o, H4, I4, ps, eo, e4⟩ => ?_
  subst eo e4
  cases pl
  cases pu
  have I5 : Inv X pins σ H4 { s4 with heap := s4.heap.push { cls := .type "slice", data := .fields #[.none, .none, vs] } } := I4.kept (t' := s4.toks) fun b ob q => Heap.get?_push_of_some _ q
  show wpAny (model X.prog X.w) X.A (subscriptTail e (.Slice none none (some (.UnaryOp .USub (.Constant (.int 1) k p1) p2)) p3) (.ref a) (.ref s4.heap.objs.size)) (EP X pins σ Q) X.xe { s4 with heap := s4.heap.push { cls := .type "slice", data := .fields #[.none, .none, vs] } }
  have new := I5.hok.fresh (Nat.le_refl _)
  rcases hx with ⟨hx, q⟩ | ⟨hx, q⟩
  · obtain ⟨its, r, ht, hz⟩ := I5.list hx
    have hl := r.length
    refine tail_any (ops := [.ref a, .ref s4.heap.objs.size]) ht.isList.typeIs (PySem.slot_list_getitem.lookup) ?_ (by with_unfolding_all rfl)
    refine wpAny_getItem_list_slice ht.isList (Heap.IsSliceOf.new _ .none .none vs) .none .none ps (by decide) ?_ (by rw [List.size_toArray]; omega)
    rw [PySem.W.krv_pick]
    exact ⟨.ref _, _, I5.laid (t' := s4.toks) (o := .lst xs.reverse) (fun b ob q => Heap.get?_push_of_some _ q) (Nat.le_refl _) ⟨by rw [List.length_reverse]; exact hz, _, 0, r.reverse, Heap.get?_push_size _ rfl⟩, rfl, q _ new⟩
  · obtain ⟨its, r, ht, hz⟩ := I5.tuple hx
    have hl := r.length
    refine tail_any (ops := [.ref a, .ref s4.heap.objs.size]) ht.typeIs (PyProof.Rows.slot_tuple_getitem.lookup) ?_ (by with_unfolding_all rfl)
    refine HT.getItem_tuple_rev ht (Heap.IsSliceOf.new _ .none .none vs) ps ?_ (by rw [List.size_toArray]; omega)
    exact ⟨.ref _, _, I5.laid (t' := s4.toks) (o := .tup xs.reverse) (fun b ob q => Heap.get?_push_of_some _ q) (Nat.le_refl _) ⟨by rw [List.length_reverse]; exact hz, _, r.reverse, IsTup.new _ _⟩, rfl, q _ new⟩
def eRev (f : EF) : EF := fun env L => (f env L).bind fun w L1 => match w.data L1 with
  | some (.list xs) => .ok (.d (.list xs.reverse)) L1
  | some (.tuple xs) => .ok (.d (.tuple xs.reverse)) L1
  | _ => .stuck
theorem data_tuple {L : LH} {w : Va} {xs : List PyData} (e : w.data L = some (.tuple xs)) : w = .d (.tuple xs) := by
  cases w with
  | d x => cases e; rfl
  | loc n =>
    simp only [Va.data] at e
    split at e
    · rename_i ws _
      cases h : datas ws with
      | none => rw [h] at e; cases e
      | some ys => rw [h] at e; cases e
    · cases e
  | tup _ => cases e
  | dct _ => cases e
  | exc _ _ => cases e
  | scr _ => cases e
theorem items_data {L : LH} {w : Va} {xs : List PyData} (e : w.data L = some (.list xs)) : w.items L = some (xs.map Va.d) := by
  cases w with
  | d x => cases e; rfl
  | loc n =>
    simp only [Va.data] at e
    split at e
    · rename_i ws e1
      cases h : datas ws with
      | none => rw [h] at e; cases e
      | some ys => rw [h] at e; cases e; rw [datas_eq h] at e1; simp [Va.items, e1]
    · cases e
  | tup _ => cases e
  | dct _ => cases e
  | exc _ _ => cases e
  | scr _ => cases e
theorem dqs_rev {M : Hp} : ∀ {vs : List V} {xs : List PyData}, DqAll M vs xs → DqAll M vs.reverse xs.reverse
  | _, _, .nil => .nil
  | _, _, .cons a b => by rw [List.reverse_cons, List.reverse_cons]; exact dq_app (dqs_rev b) (.cons a .nil)
theorem se_rev {e : Expr} {f : EF} {k : Nat} {p1 p2 p3 pos : Pos} (he : SE X Wx e f) : SE X Wx (.Subscript e (.Slice none none (some (.UnaryOp .USub (.Constant (.int 1) k p1) p2)) p3) pos) (eRev f) :=
  PE.imp (pe_rev he) fun σ H Q ⟨env, L, al, T, c, h⟩ => by
    refine rseq (R := RV X) c h fun v H1 w L1 al1 c1 s1 r1 h1 => ?_
    split at h1
    · rename_i xs e
      have dq := data_ok c1.rel r1 e
      cases dq with
      | @lst a vs _ e1 d1 =>
        have : w.items L1 = some (xs.map Va.d) := items_data e
        obtain ⟨a', vs', e2, f1, d2⟩ := items_ok c1.rel r1 this
        refine ⟨a', vs', e2, .inl ⟨SqL.of f1, gnew c1.rel h1 fun p hp e m e' => .d (.lst e' (DqAll.le m (dqs_rev (dq_all d2))))⟩⟩
    · rename_i xs e
      have ew : w = .d (.tuple xs) := data_tuple e
      subst ew
      obtain ⟨a, vs, rfl, e1, d1⟩ := dq_tup (rp_d r1)
      exact ⟨a, vs, rfl, .inr ⟨SqT.of (of_mask e1).2, gnew c1.rel h1 fun p hp e m e' => .d (.tup e' (DqAll.le m (dqs_rev d1)))⟩⟩
    · exact h1.elim
end
end L2.HW
namespace L2.HW
open PySem PySem.Spec PyProof.Rows
theorem cx_none {P : Program} {w : World} {H : Hp} {s : Shared} {e : Value} {s' : Shared} (h : L2.CX P w [] H s (fun _ _ _ => False) e s') : False := by
  obtain ⟨_, _, _, _, _, _, _, _, _, _, _, _, z⟩ := h
  exact z
theorem law_runs {P : Program} {w : World} {K : PySem.W.Frag} {mg mb : Str → Option Value} {k : Nat} {fa a : Addr} {x : Str} {sp : Sp} {s : Shared} {vs : List Value} {ns : List Int}
    (kin : K.In s.heap) (gl : s.heap.Ns mainGlobals mg) (bl : s.heap.Ns builtinsNs mb) (bb : ∀ x : Str, x ≠ "__name__" → mb x = bootBuiltins x) (nl : s.heap.NoLimit) (ng : s.gens = #[])
    (at_ : s.heap.get? a = some { cls := .type "list", data := .seq vs.toArray }) (hi : IntsAre vs ns) (hn : ns.length ≤ sizeLine) (hr : Room k callerA)
    (F : ∀ base : Heap, K.In base → base.Ns mainGlobals mg → ∃ fd, Binds K fd [x] [] ∧ FnG P w K mg base (L2.CX P w) k fa fd [x] sp)
    (hsp : ∀ H : Hp, SqL K H a (ns.map V.int) → sp [.ref a] H (fun v _ => v = .bl true) fun _ _ _ => False) :
    codeAny (model P w) callerA (.call (.ref fa) ⟨[.ref a], []⟩) (fun r s2 => r = .ok (.ret (.bool true)) ∧ OldK s.heap s2.heap ∧ s2.os = s.os ∧ AllBare s2.gens) s := by
  have rv := vals_ints hi
  have hlen := hi.length
  have core : ∀ H : Hp, (∀ b, H b = none ∨ (b = a ∧ K.lookup a = none ∧ H b = some (.frz { cls := .type "list", data := .seq vs.toArray } (.lst (ns.map V.int))))) → SqL K H a (ns.map V.int) → HOk P w H s.heap →
      codeAny (model P w) callerA (.call (.ref fa) ⟨[.ref a], []⟩) (fun r s2 => r = .ok (.ret (.bool true)) ∧ OldK s.heap s2.heap ∧ s2.os = s.os ∧ AllBare s2.gens) s := by
    intro H only sq ok
    have nod : ∀ (b : Addr) (o : Obj), s.heap.get? b = some o → (∀ (ys : Array Value) (m : Nat), o.data ≠ .seq ys m) → H b = none := by
      intro b o e d
      rcases only b with z | ⟨z, _, _⟩
      · exact z
      · subst z
        rw [at_] at e
        cases e
        exact absurd rfl (d _ _)
    have keepNs : ∀ {b : Addr} {m : Str → Option Value}, s.heap.Ns b m → (hidT s.heap H).Ns b m := by
      rintro b m ⟨o, es, ep, e, d, r⟩
      exact ⟨o, es, ep, hidT_get e (nod b o e fun ys m z => by rw [d] at z; cases z), d, r⟩
    have kin2 : K.In (hidT s.heap H) := by
      intro b o e
      refine hidT_get (kin b o e) ?_
      rcases only b with z | ⟨z, z2, _⟩
      · exact z
      · rw [z, z2] at e; cases e
    obtain ⟨mc, l1, l2⟩ := nl
    have md : Mod K mg (hidT s.heap H) := ⟨kin2, keepNs gl, ⟨mb, keepNs bl, bb⟩, ⟨mc, keepNs l1, l2⟩⟩
    have en : Env0 P w K mg (hidT s.heap H) callerA [] s H :=
      { frames := rfl, mod := md, bs := fun b o e => of_hidT e, bsz := Nat.le_of_eq (hidT_size _ _), funs := trivial, frf := (fun b z => absurd (show b ∈ ([] : List Addr) from z) (by simp)), hok := ok, bare := .of_eq ng }
    obtain ⟨fd, bt, fg⟩ := F _ kin2 (keepNs gl)
    have run := fg.go callerA [] s H ⟨[.ref a], []⟩ [.ref a] [.ref a] _ _ rfl hr en (bt s [.ref a] kin rfl) (.cons rfl .nil) (hsp H sq)
    refine codeAny_mono run ?_
    intro r s2 z
    match r, z with
    | .error e, z => exact (cx_none z).elim
    | .ok .next, z => exact z.elim
    | .ok .brk, z => exact z.elim
    | .ok .cont, z => exact z.elim
    | .ok (.ret u), ⟨v, H2, os, bare, un, ok2, rl, q⟩ =>
      have q : v = .bl true := q
      subst q
      have eu : u = Value.bool true := rl
      subst eu
      refine ⟨rfl, OldK.of_keep ?_, os, bare⟩
      intro b o e
      rcases only b with z | ⟨_, _, z⟩
      · exact un.keep b o e z (fun y => absurd (show b ∈ ([] : List Addr) from y) (by simp)) (by simp)
      · have g1 := (ok b _ z).1
        have g2 := (ok2 b _ (un.frzs b _ _ z)).1
        rw [e] at g1
        cases g1
        exact g2
  by_cases hk : K.lookup a = none
  · refine core (fun b => if b = a then some (.frz { cls := .type "list", data := .seq vs.toArray } (.lst (ns.map V.int))) else none) (fun b => ?_) (.inl (.inr ⟨_, if_pos rfl⟩)) ?_
    · by_cases hb : b = a
      · exact .inr ⟨hb, hk, if_pos hb⟩
      · exact .inl (if_neg hb)
    · intro b u z
      by_cases hb : b = a
      · have z := (if_pos hb).symm.trans z
        cases z
        rw [hb]
        exact ⟨at_, by simpa using hn, vs, _, rv, at_⟩
      · have z := (if_neg hb).symm.trans z
        cases z
  · obtain ⟨o, hk⟩ : ∃ o, K.lookup a = some o := by
      cases e : K.lookup a with
      | none => exact absurd e hk
      | some o => exact ⟨o, rfl⟩
    have e := kin a o hk
    rw [at_] at e
    cases e
    exact core (fun _ => none) (fun _ => .inl rfl) (.inr ⟨_, vs.toArray, _, hk, rfl, rfl, rfl, by simpa [hlen] using hn, by simpa using rv⟩) fun b u z => nomatch (show (none : Option HO) = some u from z)
theorem walk_hw {l : PySem.W.OpenLaw} {n k : Nat} {q : Program} {loose : List Str} {XP : (Str → Option Value) → Heap → Prop} {YP : World → Heap → Prop} {d : DefRec} {x : Str} {Fl : Fn}
    (hn : l.most = some n) (hn2 : n ≤ sizeLine) (hdf : d.params.defaults = []) (hr : Room k callerA) (law : ∀ ns : List Int, ns.length ≤ n → ∃ L, Fl [.scr ns] [] = .ok (.d (.bool true)) L)
    (F : ∀ (w : World) (mg : Str → Option Value) (fa : Addr) (h : Heap), YP w h → h.Ns mainGlobals mg → mg d.name = some (.ref fa) →
      ∃ (K : PySem.W.Frag), K.In h ∧ ∀ base : Heap, K.In base → base.Ns mainGlobals mg → ∃ fd, Binds K fd [x] [] ∧ FnG l.prog w K mg base (L2.CX l.prog w) k fa fd [x] (spOf K mg 1 Fl)) :
    PySem.W.WalkO q loose XP YP l.row.toRowW d [] (fun f vs => PySem.call f vs) := by
  refine Att.attach_call hn hdf fun w s₀ s₁ mg mb fa o pm cd doc a vs ns G Y ho hd hcd hmg hobj hints hlen hg => ?_
  obtain ⟨K, kin, hF⟩ := F w mg fa _ Y G.T.g hmg
  refine law_runs kin G.T.g G.T.b G.T.builtins G.T.nolimit hg hobj hints (Nat.le_trans hlen hn2) hr hF fun H sq => ?_
  obtain ⟨L, e⟩ := law ns hlen
  refine ⟨rfl, [.scr ns], [], [], [], ⟨rfl, .nil, (fun _ z => nomatch z), (fun _ z => Or.elim z (fun z => nomatch z) (fun z => nomatch z)), (fun n o z => by simp at z)⟩, .cons (.scr (SqL.le (fun b o z => ?_) sq)) .nil, ?_⟩
  · exact mask_of (by simp) z
  · rw [e]
    intro v H' al' s r
    cases r with
    | d r => cases r; rfl
end L2.HW
namespace L2.HW
open PySem PySem.Spec PyProof.Rows
structure Ctx (X : Cx) (Wx : WX) (k : Nat) : Prop where
  gd : X.A.guards = some []
  rm : Room k X.A
  tk : Takes X Wx
  cm : X.calm = true
  nd : X.N.Nodup
structure CtxF (X : Cx) (Wx : WX) (k : Nat) : Prop extends Ctx X Wx k where
  pa : PassesOwn (model X.prog X.w) X.A X.env X.xe
theorem takesFX {X : Cx} : Takes X FX := fun u s' ⟨_, _, _, _, _, _, _, _, _, _, _, _, _, _, _, _, z⟩ => z.elim
section
variable {X : Cx} {Wx : WX} {k : Nat}
theorem Ctx.bk (c : Ctx X Wx k) (s : Shared) (H : Hp) (sc : Scope) (e : Env) (fp : List Addr) : Ctx (X.blk s H sc e fp) FX k := ⟨c.gd, c.rm, takesFX, c.cm, c.nd⟩
theorem Ctx.u0 (c : Ctx X Wx k) : X.A.units < cLine := by have := c.rm.un; omega
theorem Ctx.u1 (c : Ctx X Wx k) : X.A.units + 1 < cLine := by have := c.rm.un; omega
theorem Ctx.u64 (c : Ctx X Wx k) : X.A.units + 64 < cLine := by have := c.rm.un; omega
theorem Ctx.u65 (c : Ctx X Wx k) : X.A.units + 65 < cLine := by have := c.rm.un; omega
theorem Ctx.u200 (c : Ctx X Wx k) : X.A.units + 200 < cLine := by have := c.rm.un; omega
end
def Def (K : PySem.W.Frag) (mg : Str → Option Value) (x : Str) (st : Stmt) : Prop := ∃ f fd, mg x = some (.ref f) ∧ FunD K x x (defArgs st) (defBody st) (defScope st) [] [] f fd
def Has (P : Program) (w : World) (K : PySem.W.Frag) (mg : Str → Option Value) (base : Heap) (x : Str) (ps : List Str) (k : Nat) (F : Fn) : Prop :=
  ∃ f fd, mg x = some (.ref f) ∧ PySem.W.keepIn K (.ref f) = true ∧ Binds K fd ps [] ∧ NP ps.length F ∧ FnG P w K mg base (L2.CX P w) k f fd ps (spOf K mg ps.length F)
def BindE (x : Str) (st : Stmt) (ps : List Str) : Prop := ∀ (kV doc pm : Value) (an : Option Addr) (cdv ct : Value) (us : List Value), us.length = ps.length →
  bindArgs (PySem.W.fnOf x x (defArgs st) (defBody st) (defScope st) .none kV doc pm an cdv ct) ⟨us, []⟩ = pure (ps.zip us)
section
variable {P : Program} {w : World} {K : PySem.W.Frag} {mg : Str → Option Value} {base : Heap} {x : Str} {st : Stmt} {ps N : List Str} {k nl : Nat}
theorem has_of {bf : SFn} (D : Def K mg x st) (hb : BindE x st ps) (S : FnScope N ps (defScope st)) (hnl : N.length = nl) (hle : ps.length ≤ nl)
    (h : ∀ (f : Addr) (cdv : Value) (A : Around) (outer : List Env) (s : Shared) (H : Hp) (E : XK), CtxF (cxOf (L2.CX P w) P w K mg base N x (defScope st) f cdv A outer s H E) (WxE E) k →
      SB (cxOf (L2.CX P w) P w K mg base N x (defScope st) f cdv A outer s H E) (WxE E) (defBody st) bf) : Has P w K mg base x ps (k + 1) (mkFn ps.length nl bf) := by
  obtain ⟨f, fd, hm, F⟩ := D
  refine ⟨f, fd, hm, F.kp, fun s us _ hl => by rw [List.append_nil] at hl ⊢; exact FunD.bindsA F hb s us hl, np_mk, ?_⟩
  refine fn_body F S rfl hnl hle fun cdv A outer s H E hg hr => h f cdv A outer s H E ⟨⟨hg, hr, takes_of rfl rfl rfl rfl, rfl, S.nd⟩, passes_of rfl⟩
theorem law_end {F : Fn} {fa : Addr} {h : Heap} {y : Str} (H : ∀ base : Heap, Has P w K mg base x [y] k F) (hm : mg x = some (.ref fa)) (hK : K.In h) :
    ∃ (K : PySem.W.Frag), K.In h ∧ ∀ base : Heap, K.In base → base.Ns mainGlobals mg → ∃ fd, Binds K fd [y] [] ∧ FnG P w K mg base (L2.CX P w) k fa fd [y] (spOf K mg 1 F) := by
  refine ⟨K, hK, fun base _ _ => ?_⟩
  obtain ⟨f, fd, h1, _, h3, _, h5⟩ := H base
  rw [hm] at h1
  cases h1
  exact ⟨fd, h3, h5⟩
theorem Has.more {F : Fn} {j : Nat} (h : Has P w K mg base x ps k F) (hj : k ≤ j) : Has P w K mg base x ps j F := by
  obtain ⟨f, fd, h1, h2, h3, h4, h5⟩ := h
  exact ⟨f, fd, h1, h2, h3, h4, h5.more hj⟩
end
section
variable {X : Cx} {Wx : WX} {k j : Nat} {ps : List Str} {F : Fn} {x : Str} {p pos : Pos} {e : Expr} {es : List Expr} {fs : En → LH → Res (List Va)}
theorem w_call (c : Ctx X Wx k) (h : Has X.prog X.w X.K X.mg X.base x ps j F) (ha : SA X Wx (e :: es) fs) (hj : j ≤ k := by decide) (hg : Gl X x := by rfl) (hdb : (x == ("__debug__" : Str)) = false := by decide)
    (he : starEach (e :: es) X.env = (false, eval e X.env) :: starEach es X.env := by rfl) (hpl : (backTo pos (starEach es X.env)).any (·.1) = false := by rfl) : SE X Wx (.Call (.Name x p) (e :: es) [] pos) (eCall F fs) := by
  obtain ⟨f, fd, h1, h2, h3, h4, h5⟩ := h
  exact se_call h5 h4 c.tk c.gd (c.rm.mono hj) hg h1 h2 h3 ha hdb he hpl
variable {a b : Expr} {fa fb : EF}
theorem w_v (i : Nat) (hN : X.N[i]? = some x := by rfl) (hv : Vis X.env.scope x := by first | exact Or.inl rfl | exact Or.inr (Or.inl rfl) | exact Or.inr (Or.inr rfl)) (hd : (x == ("__debug__" : Str)) = false := by decide) (hcd : (x == ("__classdict__" : Str)) = false := by decide) :
    SE X Wx (.Name x pos) (eVar i) := se_var hN hv hd hcd
theorem w_add (ha : SE X Wx a fa) (hb : SE X Wx b fb) : SE X Wx (.BinOp a .Add b pos) (eOp opAdd fa fb) := se_op or_add ok_add ha hb
theorem w_sub (ha : SE X Wx a fa) (hb : SE X Wx b fb) : SE X Wx (.BinOp a .Sub b pos) (eOp opSub fa fb) := se_op op_sub ok_sub ha hb
theorem w_mul (ha : SE X Wx a fa) (hb : SE X Wx b fb) : SE X Wx (.BinOp a .Mult b pos) (eOp opMul fa fb) := se_op or_mul ok_mul ha hb
theorem w_div (ha : SE X Wx a fa) (hb : SE X Wx b fb) : SE X Wx (.BinOp a .FloorDiv b pos) (eOp opDiv fa fb) := se_op op_fdivW ok_div ha hb
theorem w_mod (ha : SE X Wx a fa) (hb : SE X Wx b fb) : SE X Wx (.BinOp a .Mod b pos) (eOp opMod fa fb) := se_op op_mod ok_mod ha hb
theorem w_pow (ha : SE X Wx a fa) (hb : SE X Wx b fb) : SE X Wx (.BinOp a .Pow b pos) (eOp opPow fa fb) := se_op op_pow ok_pow ha hb
theorem w_gt (c : Ctx X Wx k) (ha : SE X Wx a fa) (hb : SE X Wx b fb) (hm : behindInMarks .Gt b = false := by rfl) : SE X Wx (.Compare a [.Gt] [b] pos) (eOp opGt fa fb) := se_cmp op_gt ok_gt ha hb hm
theorem w_ge (c : Ctx X Wx k) (ha : SE X Wx a fa) (hb : SE X Wx b fb) (hm : behindInMarks .GtE b = false := by rfl) : SE X Wx (.Compare a [.GtE] [b] pos) (eOp opGe fa fb) := se_cmp op_ge ok_ge ha hb hm
theorem w_lt (c : Ctx X Wx k) (ha : SE X Wx a fa) (hb : SE X Wx b fb) (hm : behindInMarks .Lt b = false := by rfl) : SE X Wx (.Compare a [.Lt] [b] pos) (eOp opLt fa fb) := se_cmp (or_lt c.u0) ok_lt ha hb hm
theorem w_eq (c : Ctx X Wx k) (ha : SE X Wx a fa) (hb : SE X Wx b fb) (hm : behindInMarks .Eq b = false := by rfl) : SE X Wx (.Compare a [.Eq] [b] pos) (eOp opEq fa fb) := se_cmp (or_eq c.u64) ok_eq ha hb hm
theorem w_isB (c : Ctx X Wx k) (ha : SE X Wx a fa) (hb : SE X Wx b fb) (hm : behindInMarks .Is b = false := by rfl) : SE X Wx (.Compare a [.Is] [b] pos) (eOp opIsB fa fb) := se_cmp op_isBl ok_isB ha hb hm
theorem t_gt (c : Ctx X Wx k) (ha : SE X Wx a fa) (hb : SE X Wx b fb) (hm : behindInMarks .Gt b = false := by rfl) : ST X Wx (.Compare a [.Gt] [b] pos) (tVal (eOp opGt fa fb)) := st_cmp op_gt ok_gt ha hb hm
theorem t_ge (c : Ctx X Wx k) (ha : SE X Wx a fa) (hb : SE X Wx b fb) (hm : behindInMarks .GtE b = false := by rfl) : ST X Wx (.Compare a [.GtE] [b] pos) (tVal (eOp opGe fa fb)) := st_cmp op_ge ok_ge ha hb hm
theorem t_lt (c : Ctx X Wx k) (ha : SE X Wx a fa) (hb : SE X Wx b fb) (hm : behindInMarks .Lt b = false := by rfl) : ST X Wx (.Compare a [.Lt] [b] pos) (tVal (eOp opLt fa fb)) := st_cmp (or_lt c.u0) ok_lt ha hb hm
theorem t_eq (c : Ctx X Wx k) (ha : SE X Wx a fa) (hb : SE X Wx b fb) (hm : behindInMarks .Eq b = false := by rfl) : ST X Wx (.Compare a [.Eq] [b] pos) (tVal (eOp opEq fa fb)) := st_cmp (or_eq c.u64) ok_eq ha hb hm
theorem t_ne (c : Ctx X Wx k) (ha : SE X Wx a fa) (hb : SE X Wx b fb) (hm : behindInMarks .NotEq b = false := by rfl) : ST X Wx (.Compare a [.NotEq] [b] pos) (tVal (eOp opNe fa fb)) := st_cmp (or_ne c.u64) ok_ne ha hb hm
theorem t_notIn (c : Ctx X Wx k) (ha : SE X Wx a fa) (hb : SE X Wx b fb) (hm : behindInMarks .NotIn b = false := by rfl) : ST X Wx (.Compare a [.NotIn] [b] pos) (tVal (eOp (opIn true) fa fb)) := st_cmp (op_notIn_any c.u65) ok_in ha hb hm
theorem t_notB (c : Ctx X Wx k) (ha : SE X Wx a fa) (hb : SE X Wx b fb) (hm : behindInMarks .IsNot b = false := by rfl) : ST X Wx (.Compare a [.IsNot] [b] pos) (tVal (eOp opNotB fa fb)) := st_cmp op_notBl ok_notB ha hb hm
theorem w_ix (c : Ctx X Wx k) (ha : SE X Wx a fa) (hb : SE X Wx b fb) (hs : PlainIx b := by exact fun _ _ => rfl) : SE X Wx (.Subscript a b pos) (eOp opIx fa fb) := se_ix c.u1 ha hb hs
theorem w_len (hm : X.mg "len" = none) (ha : SA X Wx [e] fs) (hg : Gl X "len" := by rfl) (he : starEach [e] X.env = (false, eval e X.env) :: starEach [] X.env := by rfl) (hpl : (backTo pos (starEach [] X.env)).any (·.1) = false := by rfl) :
    SE X Wx (.Call (.Name "len" p) [e] [] pos) (eCallB cLen fs) := se_callB cr_len ok_len hg hm rfl ha (by decide) (by decide) he hpl
theorem w_all (c : Ctx X Wx k) (hm : X.mg "all" = none) (ha : SA X Wx [e] fs) (hg : Gl X "all" := by rfl) (he : starEach [e] X.env = (false, eval e X.env) :: starEach [] X.env := by rfl) (hpl : (backTo pos (starEach [] X.env)).any (·.1) = false := by rfl) :
    SE X Wx (.Call (.Name "all" p) [e] [] pos) (eCallB cAll fs) := se_callB (cr_all c.cm) ok_all hg hm rfl ha (by decide) (by decide) he hpl
theorem w_min2 (c : Ctx X Wx k) (hm : X.mg "min" = none) (ha : SA X Wx [e, a] fs) (hg : Gl X "min" := by rfl) (he : starEach [e, a] X.env = (false, eval e X.env) :: starEach [a] X.env := by rfl) (hpl : (backTo pos (starEach [a] X.env)).any (·.1) = false := by rfl) :
    SE X Wx (.Call (.Name "min" p) [e, a] [] pos) (eCallB cMin2 fs) := se_callB (call_min2 c.cm) ok_min2 hg hm rfl ha (by decide) (by decide) he hpl
theorem w_max2 (c : Ctx X Wx k) (hm : X.mg "max" = none) (ha : SA X Wx [e, a] fs) (hg : Gl X "max" := by rfl) (he : starEach [e, a] X.env = (false, eval e X.env) :: starEach [a] X.env := by rfl) (hpl : (backTo pos (starEach [a] X.env)).any (·.1) = false := by rfl) :
    SE X Wx (.Call (.Name "max" p) [e, a] [] pos) (eCallB cMax2 fs) := se_callB (call_max2 c.cm) ok_max2 hg hm rfl ha (by decide) (by decide) he hpl
theorem w_repr (c : Ctx X Wx k) (hm : X.mg "repr" = none) (ha : SA X Wx [e] fs) (hg : Gl X "repr" := by rfl) (he : starEach [e] X.env = (false, eval e X.env) :: starEach [] X.env := by rfl) (hpl : (backTo pos (starEach [] X.env)).any (·.1) = false := by rfl) :
    SE X Wx (.Call (.Name "repr" p) [e] [] pos) (eCallB cRepr fs) := se_callB (call_reprD c.gd c.u200) ok_repr hg hm rfl ha (by decide) (by decide) he hpl
theorem w_int (hm : X.mg "int" = none) (ha : SA X Wx [e] fs) (hg : Gl X "int" := by rfl) (he : starEach [e] X.env = (false, eval e X.env) :: starEach [] X.env := by rfl) (hpl : (backTo pos (starEach [] X.env)).any (·.1) = false := by rfl) :
    SE X Wx (.Call (.Name "int" p) [e] [] pos) (eCallB cInt fs) := se_callTy call_int1 ok_int hg hm rfl ha (by decide) (by decide) he hpl
theorem w_tuple (hm : X.mg "tuple" = none) (ha : SA X Wx [e] fs) (hg : Gl X "tuple" := by rfl) (he : starEach [e] X.env = (false, eval e X.env) :: starEach [] X.env := by rfl) (hpl : (backTo pos (starEach [] X.env)).any (·.1) = false := by rfl) :
    SE X Wx (.Call (.Name "tuple" p) [e] [] pos) (eCallB cTuple fs) := se_callTy call_tuple_of ok_tuple hg hm rfl ha (by decide) (by decide) he hpl
theorem w_list (hm : X.mg "list" = none) (ha : SA X Wx [e] fs) (hg : Gl X "list" := by rfl) (he : starEach [e] X.env = (false, eval e X.env) :: starEach [] X.env := by rfl) (hpl : (backTo pos (starEach [] X.env)).any (·.1) = false := by rfl) :
    SF X Wx (.Call (.Name "list" p) [e] [] pos) (fCallB cList fs) := sf_callTy call_list_of ok_list hg hm rfl ha (by decide) (by decide) he hpl
variable {f : EF} {i : Nat} {pos' : Pos} {st : Stmt} {sf : SFn}
theorem z_set (c : Ctx X Wx k) (i : Nat) (he : SE X Wx e f) (hi : X.N[i]? = some x := by rfl) (hx : Loc X.env.scope x := by first | exact Or.inl rfl | exact Or.inr rfl) (hs : swapsWith e (some (.Name x pos')) pos.line X.env = pure false := by rfl)
    (hf : X.fn x = true ∨ X.env.scope.names.lookup x = some .local := by first | exact .inl rfl | exact .inr rfl) : SS X Wx (.Assign [.Name x pos'] e pos) (sSet i f) := ss_set c.nd hi hx he hs hf
theorem g_name (c : Ctx X Wx k) (i : Nat) (hi : X.N[i]? = some x := by rfl) (hx : Loc X.env.scope x := by first | exact Or.inl rfl | exact Or.inr rfl) (hf : X.fn x = true ∨ X.env.scope.names.lookup x = some .local := by first | exact .inl rfl | exact .inr rfl) :
    SG X [i] (.Name x pos) (tN i) := sg_name c.nd hi hx hf
theorem z_for {tg iter : Expr} {body : List Stmt} {s : Srcf} {sl : List Nat} {g : Va → En → LH → Res En} {fb : SFn} (c : CtxF X Wx k) (hi : SI X Wx tg iter s) (hg : SG X sl tg g) (hb : SB X Wx body fb)
    (hs : ∀ x, foldedSetIterable iter X.env x = pure x := by intro _; rfl) : SS X Wx (.For tg iter body [] pos) (sFor s g fb) := ss_for c.pa c.cm hi hg hb hs
end
end L2.HW
namespace L2.HW
open PySem PySem.Spec PyProof.Rows
abbrev FnF := List Va → LH → Res Ob
def settleOb (L : LH) (n0 k : Nat) : Ob → Option Ob
  | .lst ws => (mapO (settle L n0 k) ws).map .lst
  | .di kvs => (mapO (fun p : Int × Va => (settle L n0 k p.2).map fun x => (p.1, x)) kvs).map .di
  | .dt kvs => (mapO (fun p : List Int × Va => (settle L n0 k p.2).map fun x => (p.1, x)) kvs).map .dt
  | .ins _ _ => none
@[simp] theorem settleOb_d (L : LH) (n0 k : Nat) (xs : List PyData) : settleOb L n0 k (.lst (xs.map Va.d)) = some (.lst (xs.map Va.d)) := by simp [settleOb, mapO_settle_d]
section
variable {K : PySem.W.Frag} {mg : Str → Option Value} {H H' : Hp} {al al' T T' be : List Addr} {L L' : LH}
theorem settle_in {M' : Hp} {L0 : LH} (r0 : al.length = L0.length) (r : Rel K mg H' (al ++ be) T L') (m : Le (mask H' ((al ++ be) ++ T)) M')
    (hM : ∀ (n : Nat) (b : Addr) (o : Ob), L0.length ≤ n → (al ++ be)[n]? = some b → L'[n]? = some (some o) → ∀ u, H' b = some u → M' b = some u) : ∀ (k : Nat),
    (∀ (v : V) (w u : Va), Rp K mg (mask H' ((al ++ be) ++ T)) (al ++ be) v w → settle L' L0.length k w = some u → Rp K mg M' al v u) ∧
    (∀ (a : Addr) (o : Ob) (u : Va), (∀ z, H' a = some z → M' a = some z) → ObR K mg (mask H' ((al ++ be) ++ T)) (al ++ be) H' a o → settleO L' L0.length k o = some u → Rp K mg M' al (.ref a) u) := by
  have obj : ∀ k, (∀ (v : V) (w u : Va), Rp K mg (mask H' ((al ++ be) ++ T)) (al ++ be) v w → settle L' L0.length k w = some u → Rp K mg M' al v u) →
      (∀ (a : Addr) (o : Ob) (u : Va), (∀ z, H' a = some z → M' a = some z) → ObR K mg (mask H' ((al ++ be) ++ T)) (al ++ be) H' a o → settleO L' L0.length k o = some u → Rp K mg M' al (.ref a) u) := by
    intro k ih a o u see q e
    cases o with
    | lst ws =>
      obtain ⟨vs, h1, h2⟩ := q
      simp only [settleO] at e
      split at e
      · rename_i us e1
        cases e5 : datas us with
        | none => rw [e5] at e; cases e
        | some xs =>
          rw [e5] at e
          cases e
          have h3 := mapO_rps ih h2 e1
          rw [datas_eq e5] at h3
          exact .d (.lst (see _ h1) (dq_all h3))
      · cases e
    | di kvs =>
      obtain ⟨ks, h1, h2⟩ := q
      simp only [settleO] at e
      split at e
      · rename_i us e1
        cases e
        refine .dct (see _ h1) ?_
        have go : ∀ {ks : List (Key × V)} {kvs : List (Int × Va)} {us : List (Int × PyData)}, KRp K mg (mask H' ((al ++ be) ++ T)) (al ++ be) ks kvs → mapO (fun p : Int × Va => match settle L' L0.length k p.2 with
            | some (.d x) => some (p.1, x)
            | _ => none) kvs = some us → KDp M' ks us := by
          intro ks kvs us h
          induction h generalizing us with
          | nil => intro e; cases e; exact .nil
          | @cons p q ps qs h1 _ ih2 =>
            intro e
            unfold mapO at e
            split at e
            · rename_i b e2
              split at e
              · rename_i bs e3
                cases e
                split at e2
                · rename_i x e4
                  cases e2
                  exact .cons ⟨h1.1, rp_d (ih _ _ _ h1.2 e4)⟩ (ih2 e3)
                · cases e2
              · cases e
            · cases e
        exact go h2 e1
      · cases e
    | dt _ => cases e
    | ins _ _ => cases e
  intro k
  induction k with
  | zero =>
    have h0 : ∀ (v : V) (w u : Va), Rp K mg (mask H' ((al ++ be) ++ T)) (al ++ be) v w → settle L' L0.length 0 w = some u → Rp K mg M' al v u := by
      intro v w u q e
      cases q with
      | d q => cases e; exact .d (Dq.le m q)
      | loc _ => cases e
      | tup _ _ => cases e
      | dct _ _ => cases e
      | exc _ _ => cases e
      | scr _ => cases e
    exact ⟨h0, obj 0 h0⟩
  | succ k ih =>
    have h0 : ∀ (v : V) (w u : Va), Rp K mg (mask H' ((al ++ be) ++ T)) (al ++ be) v w → settle L' L0.length (k + 1) w = some u → Rp K mg M' al v u := by
      intro v w u q e
      cases q with
      | d q => cases e; exact .d (Dq.le m q)
      | @loc n a e1 =>
        rw [settle_loc] at e
        split at e
        · cases e
          exact .loc (by rw [List.getElem?_append_left (by omega)] at e1; exact e1)
        · split at e
          · rename_i o e2
            obtain ⟨b, e3, q3⟩ := r.cell n o e2
            rw [e1] at e3; cases e3
            exact ih.2 a o u (hM n a o (by omega) e1 e2) q3 e
          · cases e
      | tup e1 e2 =>
        simp only [settle] at e
        split at e
        · rename_i us e3
          cases e
          exact rp_mkTup (m _ _ e1) (mapO_rps ih.1 e2 e3)
        · cases e
      | dct e1 e2 => cases e; exact .dct (m _ _ e1) (KDp.le m e2)
      | exc e1 e2 => cases e; exact .exc (m _ _ e1) (ExR.le m e2)
      | scr e1 => cases e; exact .scr (SqL.le m e1)
    exact ⟨h0, obj (k + 1) h0⟩
theorem mapO_krp {κ κ' : Type} {G : κ → κ' → Prop} {M M' : Hp} {al al' : List Addr} {f : Va → Option Va} (hf : ∀ v w u, Rp K mg M al v w → f w = some u → Rp K mg M' al' v u) :
    ∀ {ks : List (κ × V)} {kvs us : List (κ' × Va)}, Paired (fun (p : κ × V) (q : κ' × Va) => G p.1 q.1 ∧ Rp K mg M al p.2 q.2) ks kvs → mapO (fun p : κ' × Va => (f p.2).map fun x => (p.1, x)) kvs = some us → Paired (fun (p : κ × V) (q : κ' × Va) => G p.1 q.1 ∧ Rp K mg M' al' p.2 q.2) ks us := by
  intro ks kvs us h
  induction h generalizing us with
  | nil => intro e; cases e; exact .nil
  | @cons p q ps qs h1 _ ih =>
    intro e
    unfold mapO at e
    split at e
    · rename_i b e2
      split at e
      · rename_i bs e3
        cases e
        cases e4 : f q.2 with
        | none => rw [e4] at e2; cases e2
        | some x =>
          rw [e4] at e2
          cases e2
          exact .cons ⟨h1.1, hf _ _ _ h1.2 e4⟩ (ih e3)
      · cases e
    · cases e
theorem settleOb_in {M M' : Hp} {al al' : List Addr} {L' : LH} {n0 k : Nat} (ih : ∀ (v : V) (w u : Va), Rp K mg M al v w → settle L' n0 k w = some u → Rp K mg M' al' v u) {a : Addr} : ∀ {o u : Ob}, ObR K mg M al H' a o → settleOb L' n0 k o = some u → ObR K mg M' al' H' a u
  | .lst ws, u, ⟨vs, h1, h2⟩, e => by
    simp only [settleOb] at e
    cases e1 : mapO (settle L' n0 k) ws with
    | none => rw [e1] at e; cases e
    | some us => rw [e1] at e; cases e; exact ⟨vs, h1, mapO_rps ih h2 e1⟩
  | .di kvs, u, ⟨ks, h1, h2⟩, e => by
    simp only [settleOb] at e
    cases e1 : mapO (fun p : Int × Va => (settle L' n0 k p.2).map fun x => (p.1, x)) kvs with
    | none => rw [e1] at e; cases e
    | some us => rw [e1] at e; cases e; exact ⟨ks, h1, mapO_krp (G := fun p q => p = Sum.inl q) ih h2 e1⟩
  | .dt kvs, u, ⟨ks, h1, h2⟩, e => by
    simp only [settleOb] at e
    cases e1 : mapO (fun p : List Int × Va => (settle L' n0 k p.2).map fun x => (p.1, x)) kvs with
    | none => rw [e1] at e; cases e
    | some us => rw [e1] at e; cases e; exact ⟨ks, h1, mapO_krp (G := fun (p : List Key) (q : List Int) => p = q.map Sum.inl) ih h2 e1⟩
theorem Stp.holdT {a : Addr} (s : Stp K mg H al T L H' al T L') (ha : H a = none) (ha' : H' a ≠ none) (na : a ∉ al) (low : ∀ (n : Nat) (o : Ob), L'[n]? = some (some o) → ∀ b, al[n]? = some b → ObR K mg (mask H' (al ++ (a :: T))) al H' b o) : Stp K mg H al T L H' al (a :: T) L' := by
  have r := s.rel
  refine ⟨⟨r.len, r.nd, fun b hb z => ?_, fun b h => ?_, fun n o e => ?_⟩, ⟨[], by simp, fun _ z => nomatch z⟩, ⟨[a], rfl, fun b hb => ?_⟩, s.frame, s.stay, s.lck, s.alv⟩
  · rcases List.mem_cons.mp z with z | z
    · exact na (z ▸ hb)
    · exact r.dis b hb z
  · rcases h with h | h
    · exact r.trk b (.inl h)
    · rcases List.mem_cons.mp h with z | z
      · rw [z]; exact ha'
      · exact r.trk b (.inr z)
  · obtain ⟨b, e1, _⟩ := r.cell n o e
    exact ⟨b, e1, low n o e b e1⟩
  · have : b = a := by simpa using hb
    rw [this]; exact ha
end
open Classical in
noncomputable def mkFnF (np nl : Nat) (body : SFn) : FnF := fun ws L => if ws.length = np then match body (ws.map some ++ List.replicate (nl - ws.length) none) L with
    | .rt (.loc n) L' => if L.length ≤ n then match L'[n]? with
        | some (some o) => match settleOb (L'.set n none) L.length 9 o with
          | some u => if Kept L L' then .ok u (L'.take L.length) else .stuck
          | none => .stuck
        | _ => .stuck
      else .stuck
    | .rf o L' => match settleOb L' L.length 9 o with
      | some u => if Kept L L' then .ok u (L'.take L.length) else .stuck
      | none => .stuck
    | .exc c f _ L' => if Kept L L' then .exc c f (L'.take L.length) else .stuck
    | _ => .stuck
  else .stuck
def NPF (np : Nat) (F : FnF) : Prop := ∀ ws L, ws.length ≠ np → F ws L = .stuck
theorem npf_mk {np nl : Nat} {body : SFn} : NPF np (mkFnF np nl body) := fun ws L h => by unfold mkFnF; rw [if_neg h]
def NPostF (K : PySem.W.Frag) (mg : Str → Option Value) (H : Hp) (al T : List Addr) (L : LH) (r : Res Ob) (Q : VK) (E : XK) : Prop := match r with
  | .ok o L' => ∀ a H' al', H a = none → Stp K mg H al T L H' al' (a :: T) L' → ObR K mg (mask H' (al' ++ (a :: T))) al' H' a o → Q (.ref a) H'
  | .exc c f L' => ∀ cls d H' al', Stp K mg H al T L H' al' T L' → ExR mg (mask H' (al' ++ T)) c f cls d → E cls d H'
  | .stuck => False
def spOfF (K : PySem.W.Frag) (mg : Str → Option Value) (np : Nat) (F : FnF) : Sp := fun vs H Q E => vs.length = np ∧ ∃ ws al T L, Rel K mg H al T L ∧ Rps K mg (mask H (al ++ T)) al vs ws ∧ NPostF K mg H al T L (F ws L) Q E
section
variable {P : Program} {w : World} {K : PySem.W.Frag} {mg : Str → Option Value} {base : Heap} {x qual : Str} {params : Arguments} {body : List Stmt} {scope : Scope} {dvs : List V} {kws : List (Str × V)} {f : Addr} {fd : FuncData}
theorem body_endF {H : Hp} {al T : List Addr} {L : LH} {X : Cx} {Q : VK} {E : XK} {np nl : Nat} {bf : SFn} {ws : List Va} (r0 : Rel X.K X.mg H al T L) (hl : ws.length = np)
    (h : NPostF X.K X.mg H al T L (mkFnF np nl bf ws L) Q E) : SPost X (WxE E) H al T L (bf (ws.map some ++ List.replicate (nl - ws.length) none) L) { nx := fun _ H' => Q .non H', rt := Q } := by
  unfold mkFnF at h
  rw [if_pos hl] at h
  revert h
  generalize bf (ws.map some ++ List.replicate (nl - ws.length) none) L = r
  intro h
  cases r with
  | nx _ _ => exact h.elim
  | bk _ _ => exact h.elim
  | ct _ _ => exact h.elim
  | stuck => exact h.elim
  | exc c f env' L' =>
    intro cls d σ' H' al' s _ q
    simp only at h
    split at h
    · rename_i hk
      obtain ⟨be, e, _⟩ := s.ext
      subst e
      exact h cls d H' al (exitS r0 s hk) (ExR.le (mask_more H' al be T) q)
    · exact h.elim
  | rf o L' =>
    intro a H' al' ha s q
    simp only at h
    split at h
    · rename_i u eu
      split at h
      · rename_i hk
        obtain ⟨be, e, _⟩ := s.ext
        subst e
        have n := r0.fresh ha
        -- the protected address stays so
        have sT : Stp X.K X.mg H al T L H' al (a :: T) (L'.take L.length) := by
          have rr := s.rel
          have fresh : ∀ b ∈ [a], H b = none := by
            intro b hb
            have : b = a := by simpa using hb
            rw [this]
            exact ha
          have base : Stp X.K X.mg H al T L H' al T (L'.take L.length) := exitS r0 (Stp.drop (te := [a]) fresh s) hk
          refine Stp.holdT base ha (rr.trk a (.inr List.mem_cons_self)) n.1 fun i ob ei b eb => ?_
          have hi : i < L.length := by
            have := (List.getElem?_eq_some_iff.mp ei).1
            rw [List.length_take] at this; omega
          rw [List.getElem?_take_of_lt hi] at ei
          obtain ⟨b', e2, q2⟩ := rr.cell i ob ei
          rw [List.getElem?_append_left (by rw [r0.len]; exact hi), eb] at e2
          cases e2
          obtain ⟨b3, e3, q3⟩ := base.rel.cell i ob (by rw [List.getElem?_take_of_lt hi]; exact ei)
          rw [eb] at e3; cases e3
          exact low_ob (be := be) (mask_more H' al be (a :: T)) q2 (ob_low q3)
        refine h a H' al ha sT (settleOb_in ?_ q eu)
        refine (settle_in r0.len s.rel (mask_more H' al be (a :: T)) ?_ 9).1
        intro n b o hn eb _ u hu
        refine mask_of (fun z => ?_) hu
        have hb : b ∈ be := by
          rw [List.getElem?_append_right (by have := r0.len; omega)] at eb
          exact List.mem_of_getElem? eb
        rcases List.mem_append.mp z with z | z
        · exact (List.nodup_append.mp s.rel.nd).2.2 b z b hb rfl
        · exact s.rel.dis b (List.mem_append_right _ hb) z
      · exact h.elim
    · exact h.elim
  | rt v L' =>
    match v with
    | .d _ => exact h.elim
    | .tup _ => exact h.elim
    | .dct _ => exact h.elim
    | .exc _ _ => exact h.elim
    | .scr _ => exact h.elim
    | .loc n =>
      intro v H' al' s q
      simp only at h
      split at h
      · rename_i hn
        split at h
        · rename_i o eo
          split at h
          · rename_i u eu
            split at h
            · rename_i hk
              obtain ⟨be, e, fr⟩ := s.ext
              subst e
              have rr := s.rel
              cases q with
              | @loc _ a ea =>
                obtain ⟨a', ea', qa⟩ := rr.cell n o eo
                rw [ea] at ea'; cases ea'
                have hb : a ∈ be := by
                  rw [List.getElem?_append_right (by have := r0.len; omega)] at ea
                  exact List.mem_of_getElem? ea
                have ha : H a = none := fr a hb
                have na := r0.fresh ha
                have base := exitS r0 s hk
                have mm : Le (mask H' ((al ++ be) ++ T)) (mask H' (al ++ (a :: T))) := fun b o e => by
                  obtain ⟨z, e⟩ := of_mask e
                  refine mask_of (fun y => z ?_) e
                  simp only [List.mem_append, List.mem_cons] at y ⊢
                  rcases y with y | y | y
                  · exact .inl (.inl y)
                  · exact .inl (.inr (y ▸ hb))
                  · exact .inr y
                have sT : Stp X.K X.mg H al T L H' al (a :: T) (L'.take L.length) := by
                  refine Stp.holdT base ha (rr.trk a (.inl (List.mem_append_right _ hb))) na.1 fun i ob ei b eb => ?_
                  have hi : i < L.length := by
                    have := (List.getElem?_eq_some_iff.mp ei).1
                    rw [List.length_take] at this; omega
                  obtain ⟨b3, e3, q3⟩ := base.rel.cell i ob ei
                  rw [List.getElem?_take_of_lt hi] at ei
                  obtain ⟨b', e2, q2⟩ := rr.cell i ob ei
                  rw [List.getElem?_append_left (by rw [r0.len]; exact hi), eb] at e2
                  cases e2
                  rw [eb] at e3; cases e3
                  exact low_ob (be := be) mm q2 (ob_low q3)
                refine h a H' al ha sT (settleOb_in ?_ qa eu)
                refine (settle_in r0.len (rr.lock (some n)) mm ?_ 9).1
                intro m b o2 hm eb eo2 u2 hu
                have hbb : b ∈ be := by
                  rw [List.getElem?_append_right (by have := r0.len; omega)] at eb
                  exact List.mem_of_getElem? eb
                have nb : b ≠ a := by
                  rintro rfl
                  obtain ⟨h1, h2⟩ := List.getElem?_eq_some_iff.mp ea
                  obtain ⟨h3, h4⟩ := List.getElem?_eq_some_iff.mp eb
                  have : m = n := (List.getElem_inj rr.nd).mp (h4.trans h2.symm)
                  subst this
                  have eo2 : (L'.set m none)[m]? = some (some o2) := eo2
                  rw [List.getElem?_set_self (List.getElem?_eq_some_iff.mp eo).1] at eo2
                  cases eo2
                refine mask_of (fun z => ?_) hu
                simp only [List.mem_append, List.mem_cons] at z
                rcases z with z | z | z
                · exact (List.nodup_append.mp rr.nd).2.2 b z b hbb rfl
                · exact nb z
                · exact rr.dis b (List.mem_append_right _ hbb) z
            · exact h.elim
          · exact h.elim
        · exact h.elim
      · exact h.elim
theorem fn_bodyF (F : FunD K x qual params body scope dvs kws f fd) {N ps : List Str} {k np nl : Nat} {bf : SFn} (S : FnScope N ps scope) (hnp : ps.length = np) (hnl : N.length = nl) (hle : np ≤ nl)
    (hb : ∀ (cdv : Value) (A : Around) (outer : List Env) (s : Shared) (H : Hp) (E : XK), A.guards = some [] → Room k (A.deeper (envOfC qual scope s.heap.objs.size f cdv)) → SB (cxOf (L2.CX P w) P w K mg base N qual scope f cdv A outer s H E) (WxE E) body bf) :
    FnG P w K mg base (L2.CX P w) (k + 1) f fd ps (spOfF K mg np (mkFnF np nl bf)) := by
  refine fnG_of F S (fun vs H Q E h => by rw [h.1, hnp]) (fun cdv A outer s H vs Q E hg hr h => ⟨_, hb cdv A outer s H E hg hr, ?_⟩)
  obtain ⟨hl, ws, al, T, L, r, rs, h⟩ := h
  have e := Paired.length rs
  subst hnl
  refine ⟨_, L, al, T, conf_start r rs (by omega), ?_⟩
  exact body_endF (X := cxOf (L2.CX P w) P w K mg base N qual scope f cdv A outer s H E) r (by omega) h
end
def HasF (P : Program) (w : World) (K : PySem.W.Frag) (mg : Str → Option Value) (base : Heap) (x : Str) (ps : List Str) (k : Nat) (F : FnF) : Prop :=
  ∃ f fd, mg x = some (.ref f) ∧ PySem.W.keepIn K (.ref f) = true ∧ Binds K fd ps [] ∧ NPF ps.length F ∧ FnG P w K mg base (L2.CX P w) k f fd ps (spOfF K mg ps.length F)
theorem hasF_of {P : Program} {w : World} {K : PySem.W.Frag} {mg : Str → Option Value} {base : Heap} {x : Str} {st : Stmt} {ps N : List Str} {k nl : Nat} {bf : SFn} (D : Def K mg x st) (hb : BindE x st ps) (S : FnScope N ps (defScope st)) (hnl : N.length = nl) (hle : ps.length ≤ nl)
    (h : ∀ (f : Addr) (cdv : Value) (A : Around) (outer : List Env) (s : Shared) (H : Hp) (E : XK), CtxF (cxOf (L2.CX P w) P w K mg base N x (defScope st) f cdv A outer s H E) (WxE E) k →
      SB (cxOf (L2.CX P w) P w K mg base N x (defScope st) f cdv A outer s H E) (WxE E) (defBody st) bf) : HasF P w K mg base x ps (k + 1) (mkFnF ps.length nl bf) := by
  obtain ⟨f, fd, hm, F⟩ := D
  refine ⟨f, fd, hm, F.kp, fun s us _ hl => by rw [List.append_nil] at hl ⊢; exact FunD.bindsA F hb s us hl, npf_mk, ?_⟩
  refine fn_bodyF F S rfl hnl hle fun cdv A outer s H E hg hr => h f cdv A outer s H E ⟨⟨hg, hr, takes_of rfl rfl rfl rfl, rfl, S.nd⟩, passes_of rfl⟩
section
variable {X : Cx} {Wx : WX} {k j : Nat} {ps : List Str} {F : FnF} {x : Str} {p pos : Pos} {e : Expr} {es : List Expr} {fs : En → LH → Res (List Va)}
def fCall (F : FnF) (fs : En → LH → Res (List Va)) : En → LH → Res Ob := fun env L => (fs env L).bind F
theorem w_callF (c : Ctx X Wx k) (h : HasF X.prog X.w X.K X.mg X.base x ps j F) (ha : SA X Wx (e :: es) fs) (hj : j ≤ k := by decide) (hg : Gl X x := by rfl) (hdb : (x == ("__debug__" : Str)) = false := by decide)
    (he : starEach (e :: es) X.env = (false, eval e X.env) :: starEach es X.env := by rfl) (hpl : (backTo pos (starEach es X.env)).any (·.1) = false := by rfl) : SF X Wx (.Call (.Name x p) (e :: es) [] pos) (fCall F fs) := by
  obtain ⟨f, fd, h1, h2, h3, h4, h5⟩ := h
  refine PE.imp (pe_callG (E := WE Wx) h5 c.gd (c.rm.mono hj) hg h1 h2 h3 (fun σ => passAt c.tk σ) ha hdb he hpl) ?_
  rintro σ H Q ⟨env, L, al, T, cf, q⟩
  refine fseq (R := RVs X) cf q fun vs H1 ws L1 al1 c1 s1 r1 q1 => ?_
  have hl : ws.length = ps.length := by
    by_cases z : ws.length = ps.length
    · exact z
    · rw [h4 ws L1 z] at q1; exact q1.elim
  refine ⟨by rw [Paired.length r1, hl], ws, al1, T, L1, c1.rel, r1, ?_⟩
  revert q1
  generalize F ws L1 = r
  intro q1
  cases r with
  | ok o L2 => exact fun a H' al' ha s q => q1 a H' al' ha s q
  | exc c f L2 => exact fun cls d H' al' s q => q1 cls d H' al' s q
  | stuck => exact q1
end
end L2.HW
namespace L2.HW
open PySem PySem.Spec PyProof.Rows
section
variable {X : Cx} {Wx : WX}
def dcompL (g : Va → En → LH → Res En) (t : En → LH → Res Bool) (fk fv : EF) : List Va → List (Int × Va) → En → LH → Res (List (Int × Va))
  | [], acc, _, L => .ok acc L
  | w :: ws, acc, env, L => match g w env L with
    | .ok env1 L1 => match t env1 L1 with
      | .ok b L2 => if b then match fk env1 L2 with
          | .ok (.d (.int k)) L3 => match fv env1 L3 with
            | .ok u L4 => if acc.length < sizeLine then dcompL g t fk fv ws (aput acc k u) env L4 else .stuck
            | _ => .stuck
          | _ => .stuck
        else dcompL g t fk fv ws acc env L2
      | _ => .stuck
    | _ => .stuck
end
end L2.HW
namespace PySem
open Sem (wp)
end PySem
namespace L2.HW
open PySem PySem.Spec PyProof.Rows

def enumV (k0 : Int) (ws : List Va) : List Va := ws.zipIdx.map fun p => mkTup [.d (.int (k0 + (p.2 : Nat))), p.1]
def srcE (k0 : Int) (fs : En → LH → Res (List Va)) : Srcf := fun env L => (fs env L).bind fun ws L1 => match ws with
  | [w] => match srcOf w L1 with
    | some p => .ok (enumV k0 p.1, p.2) L1
    | none => .stuck
  | _ => .stuck
end L2.HW
namespace L2.HW
open PySem PySem.Spec PyProof.Rows
def ExcF (K : PySem.W.Frag) (mg : Str → Option Value) (x : Str) : Prop := ∃ C : Addr, mg x = some (.ref C) ∧ PySem.W.excIn K C He.veBase "ValueError.__new__" = true ∧ PySem.W.keepIn K (.ref C) = true ∧ PySem.W.subIn K (.ref C) (.type "BaseException") = some true ∧ PySem.W.typeIn K (.ref C) = some (.type "type")
section
variable {X : Cx} {Wx : WX} {k : Nat}
def sRaise (x : Str) : SFn := fun env L => .exc x none env L
theorem ss_raise {x m : Str} {j : Nat} {p p2 pos pos2 : Pos} (c : Ctx X Wx k) (F : ExcF X.K X.mg x) (hg : Gl X x := by rfl) (hdb : (x == ("__debug__" : Str)) = false := by decide) :
    SS X Wx (.Raise (some (.Call (.Name x p) [.Constant (.str m) j p2] [] pos)) none pos2) (sRaise x) := by
  obtain ⟨C, hm, h1, h2, h3, h4⟩ := F
  refine PS.imp (ps_raise c.cm c.tk (pmk_own PySem.F.excBase_ValueError h1 hm h2 (raises_own h3 h4) hg hdb)) ?_
  rintro D σ H ⟨env, L, al, T, cf, h⟩
  exact h (.ref C) none σ H al (Stp.refl cf.rel) cf ⟨C, hm, rfl, rfl⟩
def dsp : List (EF × EF) → En → LH → Res (List (Int × Va))
  | [], _, L => .ok [] L
  | (f, g) :: r, env, L => match f env L with
    | .ok (.d (.int k)) L1 => match g env L1 with
      | .ok v L2 => match dsp r env L2 with
        | .ok kvs L3 => .ok ((k, v) :: kvs) L3
        | _ => .stuck
      | _ => .stuck
    | _ => .stuck
def mergeA (acc : List (Int × Va)) : List (Int × Va) → List (Int × Va)
  | [] => acc
  | p :: r => mergeA (aput acc p.1 p.2) r
def fDisp (ps : List (EF × EF)) : En → LH → Res Ob := fun env L => match dsp ps env L with
  | .ok kvs L1 => if kvs.length ≤ 15 then .ok (.di (mergeA [] kvs)) L1 else .stuck
  | _ => .stuck
def DR (K : PySem.W.Frag) (mg : Str → Option Value) (M : Hp) (al : List Addr) : List (V × V) → List (Int × Va) → Prop := Paired fun p q => p.1 = .int q.1 ∧ Rp K mg M al p.2 q.2
theorem DR.le {K : PySem.W.Frag} {mg : Str → Option Value} {M M' : Hp} {al al' : List Addr} (h : Le M M') (ha : ALe al al') {a : List (V × V)} {b : List (Int × Va)} (r : DR K mg M al a b) : DR K mg M' al' a b :=
  Paired.map2 (fun _ _ q => ⟨q.1, Rp.le h ha q.2⟩) r
def sAugIx (op : Int → Int → Int) (f g e : EF) : SFn := fun env L => (f env L).then env fun w L1 => (g env L1).then env fun u L2 => match w, u with
  | .loc n, .d (.int k) => match L2[n]? with
    | some (some (.lst ws)) => if 0 ≤ k then match ws[k.toNat]? with
      | some (.d (.int a)) => (e env L2).then env fun v L3 => match v, L3[n]? with
        | .d (.int b), some (some (.lst ws3)) => if k.toNat < ws3.length then .nx env (L3.set n (some (.lst (ws3.set k.toNat (.d (.int (op a b))))))) else .stuck
        | _, _ => .stuck
      | _ => .stuck
      else .stuck
    | _ => .stuck
  | _, _ => .stuck
def isD : LH → Va → Bool := fun L w => match w with
  | .dct _ => true
  | .loc n => match L[n]? with
    | some (some (.di _)) => true
    | some (some (.dt _)) => true
    | _ => false
  | _ => false
def eGet1 (f g : EF) : EF := fun env L => (f env L).bind fun w L1 => if isD L1 w then (g env L1).bind fun u L2 => match w.dget L2 u with
  | some (some x) => .ok x L2
  | some none => .ok (.d .none) L2
  | none => .stuck
  else .stuck
def eGet2 (f g h : EF) : EF := fun env L => (f env L).bind fun w L1 => if isD L1 w then (g env L1).bind fun u L2 => (h env L2).bind fun z L3 => match w.dget L3 u with
  | some (some x) => .ok x L3
  | some none => .ok z L3
  | none => .stuck
  else .stuck
end
end L2.HW
namespace L2.HW
open PySem PySem.Spec PyProof.Rows
section
variable {X : Cx} {Wx : WX}
def itemsV (kvs : List (Int × Va)) : List Va := kvs.map fun p => mkTup [.d (.int p.1), p.2]
def srcIt (i : Nat) : Srcf := fun env L => match env[i]? with
  | some (some (.loc n)) => match L[n]? with
    | some (some (.di kvs)) => .ok (itemsV kvs, some n) L
    | _ => .stuck
  | _ => .stuck
end
end L2.HW
namespace L2.HW
open PySem PySem.Spec PyProof.Rows
section
variable {X : Cx} {Wx : WX}
def insP (q : Int × Int) : List (Int × Int) → List (Int × Int)
  | [] => [q]
  | a :: r => if q.1 < a.1 then q :: a :: r else a :: insP q r
def sortP : List (Int × Int) → List (Int × Int)
  | [] => []
  | q :: r => insP q (sortP r)
def intKvs : List (Int × Va) → Option (List (Int × Int))
  | [] => some []
  | (k, .d (.int v)) :: r => (intKvs r).map ((k, v) :: ·)
  | _ :: _ => none
@[simp] theorem intKvs_map (ks : List (Int × Int)) : intKvs (ks.map fun q => (q.1, Va.d (.int q.2))) = some ks := by
  induction ks with
  | nil => rfl
  | cons q r ih => simp only [List.map_cons, intKvs, ih]; rfl
def fSortIt (i : Nat) : En → LH → Res Ob := fun env L => match env[i]? with
  | some (some (.loc n)) => match L[n]? with
    | some (some (.di kvs)) => match intKvs kvs with
      | some ks => .ok (.lst (((sortP ks).map fun q => PyData.tuple [.int q.1, .int q.2]).map Va.d)) L
      | none => .stuck
    | _ => .stuck
  | _ => .stuck
end
end L2.HW
namespace L2.HW
open PySem PySem.Spec PyProof.Rows
section
variable {X : Cx} {Wx : WX} {k : Nat}
open Classical in
noncomputable def cMin1X : List Va → LH → Res Va := fun ws L => one ws L fun us => match vaInts us with
  | some ns => match minI ns with
    | some m => .ok (.d (.int m)) L
    | none => .stuck
  | none => match datas us with
    | some (x :: r) => if PySem.W.AlikeAll (x :: r) ∧ PyData.depthAll (x :: r) ≤ 60 then .ok (.d (PySem.W.minD x r)) L else .stuck
    | _ => .stuck
open Classical in
noncomputable def eMinDef (fs : En → LH → Res (List Va)) (g : EF) : EF := fun env L => (fs env L).bind fun ws L1 => (g env L1).bind fun z L2 => one ws L2 fun us => match datas us with
  | some [] => .ok z L2
  | some (x :: r) => if PySem.W.AlikeAll (x :: r) ∧ PyData.depthAll (x :: r) ≤ 60 then .ok (.d (PySem.W.minD x r)) L2 else .stuck
  | none => .stuck
end
end L2.HW
namespace L2.HW
open PySem PySem.Spec PyProof.Rows
instance (a b : Int) : Decidable (RgOk a b) := by unfold RgOk; infer_instance
def rngD (a : Int) (n : Nat) : List PyData := (List.range n).map fun i => .int (a + (i : Nat))
section
variable {X : Cx} {Wx : WX} {k : Nat}
def fLstR1 (f : EF) : En → LH → Res Ob := fun env L => (f env L).bind fun w L1 => match w with
  | .d (.int n) => if RgOk 0 n then .ok (.lst ((rngD 0 n.toNat).map Va.d)) L1 else .stuck
  | _ => .stuck
def fLstR2 (f g : EF) : En → LH → Res Ob := fun env L => (f env L).bind fun w L1 => (g env L1).bind fun u L2 => match w, u with
  | .d (.int a), .d (.int b) => if RgOk a b then .ok (.lst ((rngD a (b - a).toNat).map Va.d)) L2 else .stuck
  | _, _ => .stuck
def eTupR1 (f : EF) : EF := fun env L => (f env L).bind fun w L1 => match w with
  | .d (.int n) => if RgOk 0 n then .ok (.d (.tuple (rngD 0 n.toNat))) L1 else .stuck
  | _ => .stuck
def eTupR2 (f g : EF) : EF := fun env L => (f env L).bind fun w L1 => (g env L1).bind fun u L2 => match w, u with
  | .d (.int a), .d (.int b) => if RgOk a b then .ok (.d (.tuple (rngD a (b - a).toNat))) L2 else .stuck
  | _, _ => .stuck
variable {e : Expr} {fs : En → LH → Res (List Va)} {p pos : Pos}
end
end L2.HW
namespace L2.HW
open PySem PySem.Spec PyProof.Rows
end L2.HW
namespace L2.HW
open PySem PySem.Spec PyProof.Rows
def ten : List Str := ["NoWeb", "NoMoment", "NoNumber", "NoRoad", "NoCut", "NoShape", "NotTree", "NotRoad", "NoText", "Unlike"]
def hasteS : Str := "HasteError"
structure KX (K : PySem.W.Frag) (C : Addr) : Prop where
  cl : (PySem.W.clsIn K C).isSome = true
  ga : PySem.W.findIn K (.ref C) "__getattribute__" = some (some (.builtin "BaseException.__getattribute__"))
  gt : PySem.W.findIn K (.ref C) "__getattr__" = some none
  sb : PySem.W.subIn K (.ref C) (.type "BaseException") = some true
  cc : PySem.W.findIn K (.ref C) "__class__" = some (some (.builtin "object.__class__"))
  sp : PySem.W.specialIn K (.builtin "object.__class__") "__get__" = some (some (.builtin "getset_descriptor.__get__"))
  tk : PySem.W.takesIn K (.builtin "object.__class__") = some true
  mo : PySem.W.mroIn K C (.type "object") = some true
def isErr (x y : Str) : Bool := decide (x = y) || decide (y = hasteS)
def eIsE (x : Str) (f : EF) : EF := fun env L => (f env L).bind fun w L1 => match w with
  | .exc c _ => if c ∈ ten then .ok (.d (.bool (isErr c x || decide (x = "ValueError")))) L1 else .stuck
  | .d .none => .ok (.d (.bool false)) L1
  | _ => .stuck
section
variable {X : Cx} {Wx : WX} {k : Nat}
def sTry (i j : Nat) (f : SFn) : SFn := fun env L => match f env L with
  | .exc c g env1 L1 => if c ∈ ten ∧ i < env1.length then .nx ((env1.set j (some (.exc c g))).set i none) L1 else .stuck
  | o => o
end
end L2.HW
namespace L2.HW
open PySem PySem.Spec PyProof.Rows
section
variable {X : Cx} {Wx : WX} {k : Nat}
def zipV (ws us : List Va) : List Va := List.zipWith (fun w u => mkTup [w, u]) ws us
def srcZ (fs : En → LH → Res (List Va)) : Srcf := fun env L => (fs env L).bind fun ws L1 => match ws with
  | [w, u] => match srcOf w L1, srcOf u L1 with
    | some (xs, none), some (ys, none) => match w, u with
      | .d (.list _), .d (.list _) => .ok (zipV xs ys, none) L1
      | .d (.tuple _), .d (.tuple _) => .ok (zipV xs ys, none) L1
      | _, _ => .stuck
    | _, _ => .stuck
  | _ => .stuck
end
end L2.HW
namespace L2.HW
open PySem PySem.Spec PyProof.Rows
end L2.HW
namespace L2.HW
open PySem PySem.Spec PyProof.Rows
section
variable {X : Cx} {Wx : WX} {k : Nat}
def mIndex : Va → List Va → LH → Res Va := fun w ws L => match w, ws with
  | .d (.list ds), [.d d] => if SeqAt.shaped (.list ds) = true ∧ SeqAt.shaped d = true then (match ds.findIdx? (fun z => PyData.eqv z d) with
    | some j => .ok (.d (.int (j : Nat))) L
    | none => .stuck) else .stuck
  | _, _ => .stuck
end
@[simp] theorem u_mIndex w ws L : mIndex w ws L = (match w, ws with
  | .d (.list ds), [.d d] => if SeqAt.shaped (.list ds) = true ∧ SeqAt.shaped d = true then (match ds.findIdx? (fun z => PyData.eqv z d) with
    | some j => .ok (.d (.int (j : Nat))) L
    | none => .stuck) else .stuck
  | _, _ => .stuck) := by first | exact (rfl) | (unfold mIndex; exact (rfl))
end L2.HW
namespace L2.HW
open PySem PySem.Spec PyProof.Rows
section
variable {K : PySem.W.Frag} {mg : Str → Option Value} {H H1 H2 : Hp} {al al1 al2 T T1 T2 : List Addr} {L L1 L2 : LH} {D : Addr}
theorem upd_upd (H : Hp) (D : Addr) (o z : HO) : upd (upd H D o) D z = upd H D z := by
  funext b
  by_cases e : b = D
  · subst e; rw [upd_same, upd_same]
  · rw [upd_ne e, upd_ne e, upd_ne e]
theorem upd_id {H : Hp} {D : Addr} {o : HO} (e : H D = some o) : upd H D o = H := by
  funext b
  by_cases z : b = D
  · subst z; rw [upd_same, e]
  · rw [upd_ne z]
abbrev zD : HO := .lst []
theorem mask_D {H : Hp} {o : HO} (h : D ∈ T) : mask (upd H D o) (al ++ T) = mask H (al ++ T) := mask_in (List.mem_append_right _ h)
theorem Rel.atD {o : HO} (h : D ∈ T) (r : Rel K mg H al T L) : Rel K mg (upd H D o) al T L := by
  refine ⟨r.len, r.nd, r.dis, fun a ha => ?_, fun n ob e => ?_⟩
  · by_cases z : a = D
    · subst z; rw [upd_same]; simp
    · rw [upd_ne z]; exact r.trk a ha
  · obtain ⟨a, e1, q⟩ := r.cell n ob e
    have na : a ≠ D := by
      rintro rfl
      exact r.dis a (List.mem_of_getElem? e1) h
    refine ⟨a, e1, ?_⟩
    rw [mask_D h]
    exact ObR.le (Le.refl _) (ALe.refl _) (fun o e => by rw [upd_ne na]; exact e) q
def GoD (K : PySem.W.Frag) (mg : Str → Option Value) (D : Addr) (H : Hp) (al T : List Addr) (L : LH) (H' : Hp) (al' T' : List Addr) (L' : LH) : Prop :=
  Stp K mg (upd H D zD) al T L (upd H' D zD) al' T' L'
theorem GoD.mem (h : D ∈ T) (g : GoD K mg D H al T L H1 al1 T1 L1) : D ∈ T1 := by
  obtain ⟨te, e, _⟩ := g.text
  rw [e]; exact List.mem_append_right _ h
theorem GoD.rel (h : D ∈ T) (hd : H1 D ≠ none) (g : GoD K mg D H al T L H1 al1 T1 L1) : Rel K mg H1 al1 T1 L1 := by
  cases e : H1 D with
  | none => exact absurd e hd
  | some o =>
    have r := (Stp.rel g).atD (o := o) (g.mem h)
    rw [upd_upd, upd_id e] at r
    exact r
theorem GoD.of (h : D ∈ T) (s : Stp K mg H al T L H1 al1 T1 L1) (hd : H D ≠ none) : GoD K mg D H al T L H1 al1 T1 L1 := by
  have m1 : D ∈ T1 := by
    obtain ⟨te, e, _⟩ := s.text
    rw [e]; exact List.mem_append_right _ h
  have nn : ∀ b, H b = none → (upd H D zD) b = none := fun b e => by
    have : b ≠ D := by rintro rfl; exact hd e
    rw [upd_ne this]; exact e
  obtain ⟨be, e1, f1⟩ := s.ext
  obtain ⟨te, e2, f2⟩ := s.text
  refine ⟨s.rel.atD m1, ⟨be, e1, fun b hb => nn b (f1 b hb)⟩, ⟨te, e2, fun b hb => nn b (f2 b hb)⟩, fun b o e na => ?_, fun b e => ?_, s.lck, s.alv⟩
  · by_cases z : b = D
    · subst z; rw [upd_same] at e ⊢; exact e
    · rw [upd_ne z] at e ⊢; exact s.frame b o e na
  · by_cases z : b = D
    · subst z; rw [upd_same]; simp
    · rw [upd_ne z] at e ⊢; exact s.stay b e
theorem GoD.upd {o : HO} (g : GoD K mg D H al T L H1 al1 T1 L1) : GoD K mg D H al T L (upd H1 D o) al1 T1 L1 := by
  unfold GoD
  rw [upd_upd]
  exact g
theorem GoD.trans (hl : al.length = L.length) (g : GoD K mg D H al T L H1 al1 T1 L1) (k : GoD K mg D H1 al1 T1 L1 H2 al2 T2 L2) : GoD K mg D H al T L H2 al2 T2 L2 := Stp.trans hl g k
theorem GoD.opened (r : Rel K mg H al T L) (h : D ∈ T) {lk : Option Nat} (g : GoD K mg D H al T (lockL lk L) H1 al1 T1 L1) : GoD K mg D H al T L H1 al1 T1 (openL lk L L1) := Stp.opened (r.atD h) g
theorem GoD.rps (h : D ∈ T) (g : GoD K mg D H al T L H1 al1 T1 L1) {v : List V} {w : List Va} (r : Rps K mg (mask H (al ++ T)) al v w) : Rps K mg (mask H1 (al1 ++ T1)) al1 v w := by
  have q := Stp.rps g (v := v) (w := w) (by rw [mask_D h]; exact r)
  rw [mask_D (g.mem h)] at q
  exact q
theorem GoD.frame (g : GoD K mg D H al T L H1 al1 T1 L1) {a : Addr} {o : HO} (na : a ≠ D) (e : H a = some o) (n : ¬ Alv al L a) : H1 a = some o := by
  have q := Stp.frame g a o (by rw [upd_ne na]; exact e) n
  rw [upd_ne na] at q
  exact q
end
end L2.HW
namespace L2.HW
open PySem PySem.Spec PyProof.Rows
def pickL {α : Type} (is : List Nat) (ws : List α) : List α := is.filterMap fun i => ws[i]?
def HasW (K : PySem.W.Frag) (ps : List Str) (kk : List (List Str × List Nat)) (fd : FuncData) : Prop := ∀ q ∈ kk, ∀ (s : Shared) (ws : List Value), ws.length = q.1.length → BindsTo s fd ⟨[], q.1.zip ws⟩ (ps.zip (pickL q.2 ws))
def HasK (P : Program) (w : World) (K : PySem.W.Frag) (mg : Str → Option Value) (base : Heap) (x : Str) (ps : List Str) (kk : List (List Str × List Nat)) (k : Nat) (F : Fn) : Prop :=
  ∃ f fd, mg x = some (.ref f) ∧ PySem.W.keepIn K (.ref f) = true ∧ Binds K fd ps [] ∧ NP ps.length F ∧ FnG P w K mg base (L2.CX P w) k f fd ps (spOf K mg ps.length F) ∧ HasW K ps kk fd
def HasKF (P : Program) (w : World) (K : PySem.W.Frag) (mg : Str → Option Value) (base : Heap) (x : Str) (ps : List Str) (kk : List (List Str × List Nat)) (k : Nat) (F : FnF) : Prop :=
  ∃ f fd, mg x = some (.ref f) ∧ PySem.W.keepIn K (.ref f) = true ∧ Binds K fd ps [] ∧ NPF ps.length F ∧ FnG P w K mg base (L2.CX P w) k f fd ps (spOfF K mg ps.length F) ∧ HasW K ps kk fd
section
variable {P : Program} {w : World} {K : PySem.W.Frag} {mg : Str → Option Value} {base : Heap} {x : Str} {st : Stmt} {ps N : List Str} {k nl : Nat} {kk : List (List Str × List Nat)}
theorem HasK.has {F : Fn} (h : HasK P w K mg base x ps kk k F) : Has P w K mg base x ps k F := let ⟨f, fd, a, b, c, d, e, _⟩ := h; ⟨f, fd, a, b, c, d, e⟩
theorem HasKF.has {F : FnF} (h : HasKF P w K mg base x ps kk k F) : HasF P w K mg base x ps k F := let ⟨f, fd, a, b, c, d, e, _⟩ := h; ⟨f, fd, a, b, c, d, e⟩
end
section
variable {X : Cx} {Wx : WX} {k j : Nat} {ps ks : List Str} {is : List Nat} {kk : List (List Str × List Nat)} {x : Str} {p pos : Pos} {kws : List Keyword} {fs : En → LH → Res (List Va)}
def eCallK (F : Fn) (m : Nat) (is : List Nat) (fs : En → LH → Res (List Va)) : EF := fun env L => (fs env L).bind fun ws L1 => if ws.length = m then F (pickL is ws) L1 else .stuck
def fCallK (F : FnF) (m : Nat) (is : List Nat) (fs : En → LH → Res (List Va)) : En → LH → Res Ob := fun env L => (fs env L).bind fun ws L1 => if ws.length = m then F (pickL is ws) L1 else .stuck
end
@[simp] theorem u_eCallK (F : Fn) (m : Nat) (is : List Nat) (fs : En → LH → Res (List Va)) env L : eCallK F m is fs env L = ((fs env L).bind fun ws L1 => if ws.length = m then F (pickL is ws) L1 else .stuck) := by unfold eCallK; exact (rfl)
@[simp] theorem u_fCallK (F : FnF) (m : Nat) (is : List Nat) (fs : En → LH → Res (List Va)) env L : fCallK F m is fs env L = ((fs env L).bind fun ws L1 => if ws.length = m then F (pickL is ws) L1 else .stuck) := by unfold fCallK; exact (rfl)
end L2.HW
namespace L2.HW
open PySem PySem.Spec PyProof.Rows
section
variable {X : Cx} {Wx : WX} {k : Nat}
def eSetdT (f g h : EF) : EF := fun env L => (f env L).bind fun w L1 => if isD L1 w then (g env L1).bind fun u L2 => (h env L2).bind fun z L3 => match w, u with
  | .loc n, .d (.tuple xs) => match L3[n]?, intsOf xs with
    | some (some (.di [])), some ns => .ok z (L3.set n (some (.dt [(ns, z)])))
    | some (some (.dt ks)), some ns => match alook ks ns with
      | some x => .ok x L3
      | none => if ks.length < sizeLine then .ok z (L3.set n (some (.dt (aput ks ns z)))) else .stuck
    | _, _ => .stuck
  | _, _ => .stuck
  else .stuck
end
@[simp] theorem u_eSetdT (f g h : EF) env L : eSetdT f g h env L = ((f env L).bind fun w L1 => if isD L1 w then (g env L1).bind fun u L2 => (h env L2).bind fun z L3 => match w, u with
  | .loc n, .d (.tuple xs) => match L3[n]?, intsOf xs with
    | some (some (.di [])), some ns => .ok z (L3.set n (some (.dt [(ns, z)])))
    | some (some (.dt ks)), some ns => match alook ks ns with
      | some x => .ok x L3
      | none => if ks.length < sizeLine then .ok z (L3.set n (some (.dt (aput ks ns z)))) else .stuck
    | _, _ => .stuck
  | _, _ => .stuck
  else .stuck) := by unfold eSetdT; exact (rfl)
end L2.HW
namespace L2.HW
open PySem PySem.Spec PyProof.Rows
end L2.HW
namespace L2.HW
open PySem PySem.Spec PyProof.Rows
section
variable {X : Cx} {Wx : WX} {k : Nat}
def cSortedD : List Va → LH → Res Ob := fun ws L => match ws with
  | [.dct ks] => if ks.length < 64 then .ok (.lst ((sortI (ks.map (·.1))).map fun i => .d (.int i))) L else .stuck
  | _ => .stuck
def eLt4 (fa fb fc fd : EF) : EF := fun env L => (fa env L).bind fun a L1 => (fb env L1).bind fun b L2 => match a, b with
  | .d (.int i), .d (.int j) => if i < j then (fc env L2).bind fun c L3 => match c with
      | .d (.int k) => if j < k then (fd env L3).bind fun d L4 => match d with
          | .d (.int m) => .ok (.d (.bool (decide (k < m)))) L4
          | _ => .stuck
        else .ok (.d (.bool false)) L3
      | _ => .stuck
    else .ok (.d (.bool false)) L2
  | _, _ => .stuck
@[simp] theorem u_eLt4 (fa fb fc fd : EF) env L : eLt4 fa fb fc fd env L = ((fa env L).bind fun a L1 => (fb env L1).bind fun b L2 => match a, b with
  | .d (.int i), .d (.int j) => if i < j then (fc env L2).bind fun c L3 => match c with
      | .d (.int k) => if j < k then (fd env L3).bind fun d L4 => match d with
          | .d (.int m) => .ok (.d (.bool (decide (k < m)))) L4
          | _ => .stuck
        else .ok (.d (.bool false)) L3
      | _ => .stuck
    else .ok (.d (.bool false)) L2
  | _, _ => .stuck) := by unfold eLt4; exact (rfl)
@[simp] theorem u_cSortedD ws L : cSortedD ws L = (match ws with
  | [.dct ks] => if ks.length < 64 then .ok (.lst ((sortI (ks.map (·.1))).map fun i => .d (.int i))) L else .stuck
  | _ => .stuck) := by unfold cSortedD; exact (rfl)
end
end L2.HW
namespace L2.HW
open PySem PySem.Spec PyProof.Rows
section
variable {X : Cx} {Wx : WX}
def sAugL (i : Nat) (f : EF) : SFn := fun env L => match env[i]? with
  | some (some (.loc n)) => (f env L).then env fun w L1 => match L1[n]?, w.items L1 with
    | some (some (.lst ws)), some us => if ws.length + us.length ≤ sizeLine then .nx (env.set i (some (.loc n))) (L1.set n (some (.lst (ws ++ us)))) else .stuck
    | _, _ => .stuck
  | _ => .stuck
end
@[simp] theorem u_sAugL (i : Nat) (f : EF) env L : sAugL i f env L = (match env[i]? with
  | some (some (.loc n)) => (f env L).then env fun w L1 => match L1[n]?, w.items L1 with
    | some (some (.lst ws)), some us => if ws.length + us.length ≤ sizeLine then .nx (env.set i (some (.loc n))) (L1.set n (some (.lst (ws ++ us)))) else .stuck
    | _, _ => .stuck
  | _ => .stuck) := by unfold sAugL; rfl
end L2.HW
namespace L2.HW
open PySem PySem.Spec PyProof.V PyProof.Rows RZ
open PySem.Sem (wp)
section
variable {X : Cx} {Wx : WX} {k : Nat}
def srcZM (fs : En → LH → Res (List Va)) : Srcf := fun env L => (fs env L).bind fun ws L1 => match ws with
  | [.d (.tuple xs), w] => match srcOf w L1 with
    | some p => match w with
      | .loc _ => .ok (zipV (xs.map Va.d) p.1, p.2) L1
      | .d (.list _) => .ok (zipV (xs.map Va.d) p.1, p.2) L1
      | _ => .stuck
    | none => .stuck
  | _ => .stuck
@[simp] theorem u_srcZM (fs : En → LH → Res (List Va)) env L : srcZM fs env L = ((fs env L).bind fun ws L1 => match ws with
  | [.d (.tuple xs), w] => match srcOf w L1 with
    | some p => match w with
      | .loc _ => .ok (zipV (xs.map Va.d) p.1, p.2) L1
      | .d (.list _) => .ok (zipV (xs.map Va.d) p.1, p.2) L1
      | _ => .stuck
    | none => .stuck
  | _ => .stuck) := by unfold srcZM; exact (rfl)
end
end L2.HW
namespace L2.HW
open PySem PySem.Spec PyProof.Rows
end L2.HW
namespace L2.HW
open PySem PySem.Spec PyProof.Rows
section
variable {X : Cx} {Wx : WX}
def dcompL2 (g : Va → En → LH → Res En) (s1 : Srcf) (g1 : Va → En → LH → Res En) (fk fv : EF) (vs1 : List Nat) : List Va → List (Int × Va) → En → LH → Res (List (Int × Va))
  | [], acc, _, L => .ok acc L
  | w :: ws, acc, env, L => match g w env L with
    | .ok env1 L1 => match s1 env1 L1 with
      | .ok p L2 => match dcompL g1 tTrue fk fv p.1 acc (wipeE env1 vs1) (lockL p.2 L2) with
        | .ok acc1 L3 => dcompL2 g s1 g1 fk fv vs1 ws acc1 env (openL p.2 L2 L3)
        | _ => .stuck
      | _ => .stuck
    | _ => .stuck
def fin3 (lk : Option Nat) (L1 : LH) (r : Res (List (Int × Va))) : Res Ob := match r with
  | .ok us L3 => .ok (.di us) (openL lk L1 L3)
  | _ => .stuck
def fDComp2 (s : Srcf) (g : Va → En → LH → Res En) (s1 : Srcf) (g1 : Va → En → LH → Res En) (fk fv : EF) (vs vs1 : List Nat) : En → LH → Res Ob := fun env L => (s env L).bind fun p L1 =>
  fin3 p.2 L1 (dcompL2 g s1 g1 fk fv vs1 p.1 [] (wipeE env vs) (lockL p.2 L1))
@[simp] theorem u_fDComp2 (s : Srcf) (g : Va → En → LH → Res En) (s1 : Srcf) (g1 : Va → En → LH → Res En) (fk fv : EF) (vs vs1 : List Nat) (env : En) (L : LH) : fDComp2 s g s1 g1 fk fv vs vs1 env L = ((s env L).bind fun p L1 => fin3 p.2 L1 (dcompL2 g s1 g1 fk fv vs1 p.1 [] (wipeE env vs) (lockL p.2 L1))) := rfl
end
end L2.HW
set_option maxHeartbeats 4000000
namespace L2.HW
open PySem PySem.Spec PyProof.Rows
end L2.HW
set_option maxHeartbeats 200000
namespace L2.HW
open PySem PySem.Spec PyProof.Rows
def insKy {α : Type} (q : Int × α) : List (Int × α) → List (Int × α)
  | [] => [q]
  | a :: r => if q.1 ≤ a.1 then q :: a :: r else a :: insKy q r
def sortKy {α : Type} : List (Int × α) → List (Int × α)
  | [] => []
  | q :: r => insKy q (sortKy r)
end L2.HW
namespace L2.HW
open PySem PySem.Spec PyProof.Rows
section
variable {X : Cx} {Wx : WX}
def Va.rows (L : LH) : Va → Option (List Va)
  | .d (.tuple ds) => some (ds.map .d)
  | w => w.items L
def sAugR (i : Nat) (f : EF) : SFn := fun env L => match env[i]? with
  | some (some (.loc n)) => (f env L).then env fun w L1 => match L1[n]?, w.rows L1 with
    | some (some (.lst ws)), some us => if ws.length + us.length ≤ sizeLine then .nx (env.set i (some (.loc n))) (L1.set n (some (.lst (ws ++ us)))) else .stuck
    | _, _ => .stuck
  | _ => .stuck
end
@[simp] theorem u_sAugR (i : Nat) (f : EF) env L : sAugR i f env L = (match env[i]? with
  | some (some (.loc n)) => (f env L).then env fun w L1 => match L1[n]?, w.rows L1 with
    | some (some (.lst ws)), some us => if ws.length + us.length ≤ sizeLine then .nx (env.set i (some (.loc n))) (L1.set n (some (.lst (ws ++ us)))) else .stuck
    | _, _ => .stuck
  | _ => .stuck) := by unfold sAugR; rfl
@[simp] theorem rows_tuple (L : LH) (ds : List PyData) : (Va.d (.tuple ds)).rows L = some (ds.map .d) := (rfl)
@[simp] theorem rows_list (L : LH) (ds : List PyData) : (Va.d (.list ds)).rows L = some (ds.map .d) := (rfl)
def keyL (F : Fn) : List Va → LH → Res (List Int)
  | [], L => .ok [] L
  | w :: ws, L => match F [w] L with
    | .ok (.d (.int k)) L1 => (keyL F ws L1).bind fun ks L2 => .ok (k :: ks) L2
    | _ => .stuck
def fSortK (F : Fn) (fs : En → LH → Res (List Va)) : En → LH → Res Ob := fun env L => (fs env L).bind fun vs L1 => match vs with
  | [w] => match w.items L1 with
    | some ws => (keyL F ws L1).bind fun ks L2 => .ok (.lst ((sortKy (ks.zip ws)).map (·.2))) L2
    | none => .stuck
  | _ => .stuck
@[simp] theorem u_fSortK (F : Fn) (fs : En → LH → Res (List Va)) env L : fSortK F fs env L = ((fs env L).bind fun vs L1 => match vs with
  | [w] => match w.items L1 with
    | some ws => (keyL F ws L1).bind fun ks L2 => .ok (.lst ((sortKy (ks.zip ws)).map (·.2))) L2
    | none => .stuck
  | _ => .stuck) := by unfold fSortK; exact (rfl)
end L2.HW
namespace L2.HW
open PySem PySem.Spec PyProof.Rows
section
variable {X : Cx} {Wx : WX} {k : Nat}
def mPopAt : Va → List Va → LH → Res Va := fun w ws L => match w, ws with
  | .loc n, [.d (.int i)] => match L[n]? with
    | some (some (.lst us)) => if 0 ≤ i ∧ i < 2 ^ 63 then match us[i.toNat]? with
      | some u => .ok u (L.set n (some (.lst (us.eraseIdx i.toNat))))
      | none => .stuck
      else .stuck
    | _ => .stuck
  | _, _ => .stuck
def deepL (L : LH) : List Va → Option (List PyData)
  | [] => some []
  | w :: ws => match w.data L, deepL L ws with
    | some x, some xs => some (x :: xs)
    | _, _ => none
def opInL (neg : Bool) : Op2 := fun w u L => match u.items L, w.data L with
  | some ws, some x => match deepL L ws with
    | some ds => if SeqAt.shaped x && SeqAt.shaped (.list ds) then .ok (.d (.bool (if neg then !(ds.any fun z => PyData.eqv z x) else ds.any fun z => PyData.eqv z x))) L else .stuck
    | none => .stuck
  | _, _ => .stuck
variable {a b : Expr} {fa fb : EF} {pos : Pos}
end
@[simp] theorem u_mPopAt w ws L : mPopAt w ws L = (match w, ws with
  | .loc n, [.d (.int i)] => match L[n]? with
    | some (some (.lst us)) => if 0 ≤ i ∧ i < 2 ^ 63 then match us[i.toNat]? with
      | some u => .ok u (L.set n (some (.lst (us.eraseIdx i.toNat))))
      | none => .stuck
      else .stuck
    | _ => .stuck
  | _, _ => .stuck) := by unfold mPopAt; exact (rfl)
@[simp] theorem u_opInL (neg : Bool) w u L : opInL neg w u L = (match u.items L, w.data L with
  | some ws, some x => match deepL L ws with
    | some ds => if SeqAt.shaped x && SeqAt.shaped (.list ds) then .ok (.d (.bool (if neg then !(ds.any fun z => PyData.eqv z x) else ds.any fun z => PyData.eqv z x))) L else .stuck
    | none => .stuck
  | _, _ => .stuck) := by unfold opInL; exact (rfl)
end L2.HW
namespace L2.HW
open PySem PySem.Spec PyProof.Rows
section
variable {X : Cx} {Wx : WX}
def cIntS : List Va → LH → Res Va := fun ws L => match ws with
  | [.d (.str a)] => match PySem.intText? a with
    | some n => if a.length ≤ 640 then .ok (.d (.int n)) L else .stuck
    | none => .stuck
  | _ => .stuck
variable {e o : Expr} {fs : En → LH → Res (List Va)} {p pos apos : Pos}
@[simp] theorem u_cIntS (ws : List Va) (L : LH) : cIntS ws L = (match ws with
  | [.d (.str a)] => match PySem.intText? a with
    | some n => if a.length ≤ 640 then .ok (.d (.int n)) L else .stuck
    | none => .stuck
  | _ => .stuck) := (rfl)
def strRep (k : Nat) (a : Str) : Str := ⟨(List.replicate k a.cps).foldl (· ++ ·) #[]⟩
def opMulS : Op2 := fun w u L => match w, u with
  | .d (.str a), .d (.int k) => if 2 ≤ k ∧ k ≤ 1000 ∧ 0 < a.length ∧ a.length ≤ 1000 then .ok (.d (.str (strRep k.toNat a))) L else .stuck
  | _, _ => .stuck
@[simp] theorem u_opMulS (w u : Va) (L : LH) : opMulS w u L = (match w, u with
  | .d (.str a), .d (.int k) => if 2 ≤ k ∧ k ≤ 1000 ∧ 0 < a.length ∧ a.length ≤ 1000 then .ok (.d (.str (strRep k.toNat a))) L else .stuck
  | _, _ => .stuck) := (rfl)
variable {a b : Expr} {fa fb fo fe : EF}
def fSplit (fo fe : EF) : En → LH → Res Ob := fun env L => (fo env L).bind fun w L1 => match w with
  | .d (.str a) => (fe env L1).bind fun u L2 => match u with
    | .d (.str b) => if (b.length == 0) = false ∧ a.length + 2 ≤ sizeLine then .ok (.lst (((Txt.split a b).map PyData.str).map Va.d)) L2 else .stuck
    | _ => .stuck
  | _ => .stuck
@[simp] theorem u_fSplit (env : En) (L : LH) : fSplit fo fe env L = ((fo env L).bind fun w L1 => match w with
  | .d (.str a) => (fe env L1).bind fun u L2 => match u with
    | .d (.str b) => if (b.length == 0) = false ∧ a.length + 2 ≤ sizeLine then .ok (.lst (((Txt.split a b).map PyData.str).map Va.d)) L2 else .stuck
    | _ => .stuck
  | _ => .stuck) := (rfl)
def strsOf : List PyData → Option (List Str)
  | [] => some []
  | .str s :: xs => (strsOf xs).map (s :: ·)
  | _ :: _ => none
def joinOk (a : Str) (ys : List Str) : Bool := decide ((ys.map (·.length)).sum + ys.length * a.length ≤ 16777216)
def eJoin (fo fe : EF) : EF := fun env L => (fo env L).bind fun w L1 => match w with
  | .d (.str a) => (fe env L1).bind fun u L2 => match u.data L2 with
    | some (.list xs) => match strsOf xs with
      | some ys => if joinOk a ys then .ok (.d (.str (Txt.join a ys))) L2 else .stuck
      | none => .stuck
    | _ => .stuck
  | _ => .stuck
@[simp] theorem u_eJoin (env : En) (L : LH) : eJoin fo fe env L = ((fo env L).bind fun w L1 => match w with
  | .d (.str a) => (fe env L1).bind fun u L2 => match u.data L2 with
    | some (.list xs) => match strsOf xs with
      | some ys => if joinOk a ys then .ok (.d (.str (Txt.join a ys))) L2 else .stuck
      | none => .stuck
    | _ => .stuck
  | _ => .stuck) := (rfl)
def signsV (z : Str) : List Va := z.cps.toList.map fun c => Va.d (.str ⟨#[c]⟩)
def srcS (f : EF) : Srcf := fun env L => (f env L).bind fun w L1 => match w with
  | .d (.str z) => .ok (signsV z, none) L1
  | _ => .stuck
@[simp] theorem u_srcS {f : EF} (env : En) (L : LH) : srcS f env L = ((f env L).bind fun w L1 => match w with
  | .d (.str z) => .ok (signsV z, none) L1
  | _ => .stuck) := (rfl)
def srcEk (fs : En → LH → Res (List Va)) : Srcf := fun env L => (fs env L).bind fun ws L1 => match ws with
  | [.d (.list ds), .d (.int k)] => if -(2 ^ 63) ≤ k ∧ k < 2 ^ 63 then .ok (enumV k (ds.map Va.d), none) L1 else .stuck
  | _ => .stuck
@[simp] theorem u_srcEk (env : En) (L : LH) : srcEk fs env L = ((fs env L).bind fun ws L1 => match ws with
  | [.d (.list ds), .d (.int k)] => if -(2 ^ 63) ≤ k ∧ k < 2 ^ 63 then .ok (enumV k (ds.map Va.d), none) L1 else .stuck
  | _ => .stuck) := (rfl)
end
end L2.HW
namespace PySem
namespace TxX
open PySem.W PySem.Calls PyProof.Rows PySem.HandSPX
end TxX
end PySem
namespace L2
open PySem PySem.Spec PyProof.Rows
end L2
namespace L2.HW
open PySem PySem.Spec PyProof.Rows
abbrev nTx : Str := "NoText"
section
variable {X : Cx} {Wx : WX} {k : Nat}
def sRaiseV (x : Str) (fs : En → LH → Res (List Va)) : SFn := fun env L => (fs env L).then env fun ws L1 => match ws with
  | [.d y] => .exc x (some y) env L1
  | _ => .stuck
@[simp] theorem u_sRaiseV (x : Str) (fs : En → LH → Res (List Va)) (env : En) (L : LH) : sRaiseV x fs env L = (fs env L).then env (fun ws L1 => match ws with
  | [.d y] => .exc x (some y) env L1
  | _ => .stuck) := (rfl)
def eSpot (f : EF) : EF := fun env L => (f env L).bind fun w L1 => match w with
  | .exc c (some y) => if c = nTx then .ok (.d y) L1 else .stuck
  | _ => .stuck
@[simp] theorem u_eSpot (f : EF) (env : En) (L : LH) : eSpot f env L = ((f env L).bind fun w L1 => match w with
  | .exc c (some y) => if c = nTx then .ok (.d y) L1 else .stuck
  | _ => .stuck) := (rfl)
end
end L2.HW
namespace L2.HW
open PySem PySem.Spec PyProof.Rows
section
variable {X : Cx} {Wx : WX} {e : Expr} {fs : En → LH → Res (List Va)} {p pos : Pos}
def srcES (fs : En → LH → Res (List Va)) : Srcf := fun env L => (fs env L).bind fun ws L1 => match ws with
  | [.d (.str z)] => .ok (enumV 0 (signsV z), none) L1
  | _ => .stuck
@[simp] theorem u_srcES (env : En) (L : LH) : srcES fs env L = ((fs env L).bind fun ws L1 => match ws with
  | [.d (.str z)] => .ok (enumV 0 (signsV z), none) L1
  | _ => .stuck) := (rfl)
end
def sTryR (i : Nat) (f : SFn) : SFn := fun env L => match f env L with
  | .exc c g env1 L1 => if c ∈ ten ∧ i < env1.length then .rt (.exc c g) L1 else .stuck
  | o => o
@[simp] theorem u_sTryR (i : Nat) (f : SFn) (env : En) (L : LH) : sTryR i f env L = (match f env L with
  | .exc c g env1 L1 => if c ∈ ten ∧ i < env1.length then .rt (.exc c g) L1 else .stuck
  | o => o) := (rfl)
def clsStm (st : Stmt) (j : Nat) : Stmt := match st with
  | .ClassDef _ _ _ body _ _ _ _ _ _ _ => body.getD j (.Pass ⟨0, 0, 0, 0⟩)
  | _ => .Pass ⟨0, 0, 0, 0⟩
def hookB (B : PySem.W.Frag → Bool) (n : Nat) (fa : List He.Fa) (fn : List He.DefD) : PySem.W.Hook where
  α := He.AlD × Bool
  obs s := (He.obsDG n fa fn s.heap.get?, B (He.frG s.heap.get? (He.asD s.heap.get? n)))
  val _ := (He.valD fn, true)
  says _ h := ∃ K : PySem.W.Frag, K.In h ∧ He.SaysD fa fn K ∧ B K = true
  of _ s e := ⟨He.frG s.heap.get? (He.asD s.heap.get? n), He.frG_in, congrArg Prod.fst e, congrArg Prod.snd e⟩
  keeps _ _ _ h k := let ⟨K, k1, k2, k3⟩ := h; ⟨K, fun b o e => k b o (k1 b o e), k2, k3⟩
def obB (B : PySem.W.Frag → Bool) (n : Nat) (fa : List He.Fa) (fn : List He.DefD) (s : PySem.W.SharedT) : He.AlD × Bool :=
  (He.obsDG n fa fn (HandSHeadRun.getT s), B (He.frG (HandSHeadRun.getT s) (He.asD (HandSHeadRun.getT s) n)))
theorem obB_eq {B : PySem.W.Frag → Bool} {n : Nat} {fa : List He.Fa} {fn : List He.DefD} (s : PySem.W.SharedT) : obB B n fa fn s = (hookB B n fa fn).obs s.abs := by
  have : HandSHeadRun.getT s = s.abs.heap.get? := funext (HandSHeadRun.getT_eq s)
  unfold obB
  rw [this]
  rfl
end L2.HW
namespace L2.HW
open PySem PySem.Spec PyProof.Rows
def isOB (K : PySem.W.Frag) (C : Addr) : Bool :=
  decide (PySem.W.findIn K (.ref C) "__class__" = some (some (.builtin "object.__class__"))) && (decide (PySem.W.specialIn K (.builtin "object.__class__") "__get__" = some (some (.builtin "getset_descriptor.__get__"))) &&
  (decide (PySem.W.takesIn K (.builtin "object.__class__") = some true) && (decide (PySem.W.mroIn K C (.type "object") = some true) && (decide (PySem.W.kitOne K (.ref C) (.ref C) = some true) && kinds.all fun k => decide (PySem.W.kitOne K (.type k) (.ref C) = some false)))))
def ownB (K : PySem.W.Frag) (c : Str) : Bool := isOB K (He.ga K c) && PySem.W.selfFirst K (He.ga K c)
def neB (K : PySem.W.Frag) (c : Str) : Bool := decide (PySem.W.findIn K (.ref (He.ga K c)) "__ne__" = some (some (.builtin "object.__ne__")))
end L2.HW
set_option maxHeartbeats 0
namespace L2.HW.R_k51
open PySem PySem.Spec PyProof.Rows L2.HW
abbrev top (i : Nat) : Stmt := PySem.Challenge.pw_hastyways_k51_sites_beside_one_another.main.body.getD i (.Pass ⟨0, 0, 0, 0⟩)
abbrev st_Site_init : Stmt := clsStm (top 15) 0
abbrev st_Site_web : Stmt := clsStm (top 15) 8
abbrev st_Site_eq : Stmt := clsStm (top 15) 17
abbrev st_Site_len : Stmt := clsStm (top 15) 13
abbrev st_Site_look_at_new : Stmt := clsStm (top 15) 2
abbrev st_Site_take : Stmt := clsStm (top 15) 3
abbrev st_Site_put : Stmt := clsStm (top 15) 4
abbrev st_Site_look_at_place : Stmt := clsStm (top 15) 1
abbrev st_Site_drop : Stmt := clsStm (top 15) 5
abbrev st_Site_turn : Stmt := clsStm (top 15) 6
abbrev st_Site_back : Stmt := clsStm (top 15) 7
abbrev st_Site_ior : Stmt := clsStm (top 15) 16
def d__law_mixed : He.DefD := ⟨("_law_mixed", none), "_law_mixed", "_law_mixed", defArgs (top 17), defBody (top 17), defScope (top 17), [], []⟩
def d__law_pile : He.DefD := ⟨("_law_pile", none), "_law_pile", "_law_pile", defArgs (top 18), defBody (top 18), defScope (top 18), [], []⟩
def d__law_take : He.DefD := ⟨("_law_take", none), "_law_take", "_law_take", defArgs (top 19), defBody (top 19), defScope (top 19), [], []⟩
def d__law_roads : He.DefD := ⟨("_law_roads", none), "_law_roads", "_law_roads", defArgs (top 20), defBody (top 20), defScope (top 20), [], []⟩
def d__law_web : He.DefD := ⟨("_law_web", none), "_law_web", "_law_web", defArgs (top 21), defBody (top 21), defScope (top 21), [], []⟩
def d_is_whole : He.DefD := ⟨("is_whole", none), "is_whole", "is_whole", defArgs (top 8), defBody (top 8), defScope (top 8), [], []⟩
def d_is_place : He.DefD := ⟨("is_place", none), "is_place", "is_place", defArgs (top 10), defBody (top 10), defScope (top 10), [], []⟩
def d_is_more : He.DefD := ⟨("is_more", none), "is_more", "is_more", defArgs (top 9), defBody (top 9), defScope (top 9), [], []⟩
def d_is_road : He.DefD := ⟨("is_road", none), "is_road", "is_road", defArgs (top 11), defBody (top 11), defScope (top 11), [], []⟩
def d_is_right_web : He.DefD := ⟨("is_right_web", none), "is_right_web", "is_right_web", defArgs (top 12), defBody (top 12), defScope (top 12), [], []⟩
def d_look_at_web : He.DefD := ⟨("look_at_web", none), "look_at_web", "look_at_web", defArgs (top 13), defBody (top 13), defScope (top 13), [], []⟩
def d_Site_init : He.DefD := ⟨("Site", some "__init__"), "__init__", "Site.__init__", defArgs st_Site_init, defBody st_Site_init, defScope st_Site_init, [], []⟩
def d_Site_web : He.DefD := ⟨("Site", some "web"), "web", "Site.web", defArgs st_Site_web, defBody st_Site_web, defScope st_Site_web, [], []⟩
def d_Site_eq : He.DefD := ⟨("Site", some "__eq__"), "__eq__", "Site.__eq__", defArgs st_Site_eq, defBody st_Site_eq, defScope st_Site_eq, [], []⟩
def d__law_pair_good : He.DefD := ⟨("_law_pair_good", none), "_law_pair_good", "_law_pair_good", defArgs (top 22), defBody (top 22), defScope (top 22), [], []⟩
def d_Site_len : He.DefD := ⟨("Site", some "__len__"), "__len__", "Site.__len__", defArgs st_Site_len, defBody st_Site_len, defScope st_Site_len, [], []⟩
def d_Site_look_at_new : He.DefD := ⟨("Site", some "look_at_new"), "look_at_new", "Site.look_at_new", defArgs st_Site_look_at_new, defBody st_Site_look_at_new, defScope st_Site_look_at_new, [], []⟩
def d_Site_take : He.DefD := ⟨("Site", some "take"), "take", "Site.take", defArgs st_Site_take, defBody st_Site_take, defScope st_Site_take, [], []⟩
def d_Site_put : He.DefD := ⟨("Site", some "put"), "put", "Site.put", defArgs st_Site_put, defBody st_Site_put, defScope st_Site_put, [], []⟩
def d_Site_look_at_place : He.DefD := ⟨("Site", some "look_at_place"), "look_at_place", "Site.look_at_place", defArgs st_Site_look_at_place, defBody st_Site_look_at_place, defScope st_Site_look_at_place, [], []⟩
def d_Site_drop : He.DefD := ⟨("Site", some "drop"), "drop", "Site.drop", defArgs st_Site_drop, defBody st_Site_drop, defScope st_Site_drop, [], []⟩
def d_Site_turn : He.DefD := ⟨("Site", some "turn"), "turn", "Site.turn", defArgs st_Site_turn, defBody st_Site_turn, defScope st_Site_turn, [], []⟩
def d__law_deed : He.DefD := ⟨("_law_deed", none), "_law_deed", "_law_deed", defArgs (top 23), defBody (top 23), defScope (top 23), [], []⟩
def d_Site_back : He.DefD := ⟨("Site", some "back"), "back", "Site.back", defArgs st_Site_back, defBody st_Site_back, defScope st_Site_back, [], []⟩
def d__law_good : He.DefD := ⟨("_law_good", none), "_law_good", "_law_good", defArgs (top 24), defBody (top 24), defScope (top 24), [], []⟩
def d_Site_ior : He.DefD := ⟨("Site", some "__ior__"), "__ior__", "Site.__ior__", defArgs st_Site_ior, defBody st_Site_ior, defScope st_Site_ior, [], []⟩
def d__law_joined_good : He.DefD := ⟨("_law_joined_good", none), "_law_joined_good", "_law_joined_good", defArgs (top 25), defBody (top 25), defScope (top 25), [], []⟩
def d_law : He.DefD := ⟨("law", none), "law", "law", defArgs (top 26), defBody (top 26), defScope (top 26), [], []⟩
def fnl0 : List He.DefD := [d__law_mixed, d__law_pile, d__law_take, d__law_roads, d__law_web, d_is_whole, d_is_place, d_is_more, d_is_road, d_is_right_web, d_look_at_web, d_Site_init, d_Site_web, d_Site_eq, d__law_pair_good, d_Site_len, d_Site_look_at_new, d_Site_take, d_Site_put, d_Site_look_at_place, d_Site_drop, d_Site_turn, d__law_deed, d_Site_back, d__law_good, d_Site_ior, d__law_joined_good, d_law]
def fnl : List He.DefD := fnl0
def fal0 : List He.Fa := [.glo "_law_mixed", .glo "_law_pile", .glo "_law_take", .glo "_law_roads", .glo "_law_web", .glo "is_whole", .glo "is_place", .glo "is_more", .glo "is_road", .glo "is_right_web", .glo "look_at_web", .glo "Site", .glo "Site", .glo "Site", .glo "_law_pair_good", .glo "Site", .glo "Site", .glo "Site", .glo "Site", .glo "Site", .glo "Site", .glo "Site", .glo "_law_deed", .glo "Site", .glo "_law_good", .glo "Site", .glo "_law_joined_good", .glo "law", .free "all", .free "bool"]
def fal1 : List He.Fa := [.free "int", .free "isinstance", .free "len", .free "list", .free "max", .free "min", .free "range", .free "repr", .free "tuple", .glo "NoRoad", .exc "NoRoad", .glo "NoWeb", .exc "NoWeb", .glo "NotRoad", .exc "NotRoad", .glo "Unlike", .exc "Unlike", .glo "Site", .cls "Site", .noat "Site" "begin", .noat "Site" "end", .noat "Site" "many", .noat "Site" "past", .noat "Site" "roads", .mkr "Site", .meth "Site" "web", .meth "Site" "__eq__", .meth "Site" "__len__", .meth "Site" "look_at_new", .meth "Site" "take"]
def fal2 : List He.Fa := [.meth "Site" "put", .meth "Site" "look_at_place", .meth "Site" "drop", .meth "Site" "turn", .meth "Site" "back", .meth "Site" "__ior__"]
def fal : List He.Fa := fal0 ++ fal1 ++ fal2
def loo0 : List PySem.Str := ["_wall", "HasteError", "NoWeb", "NoRoad", "NotRoad", "Unlike", "is_whole", "is_more", "is_place", "is_road", "is_right_web", "look_at_web", "Site", "_law_mixed", "_law_pile", "_law_take", "_law_roads", "_law_web", "_law_pair_good", "_law_deed", "_law_good", "_law_joined_good"]
def loo : List PySem.Str := loo0
abbrev R : PySem.W.OpenRow := PySem.W.OpenLaw.row PySem.Challenge.rw_hastyways_k51_sites_beside_one_another
abbrev BB (K : PySem.W.Frag) : Bool := true && (ownB K "Site" && neB K "Site")
abbrev hk : PySem.W.Hook := hookB BB 5 fal fnl
def ob (s : PySem.W.SharedT) : He.AlD × Bool := obB BB 5 fal fnl s
theorem ob_eq (s : PySem.W.SharedT) : ob s = hk.obs s.abs := obB_eq s
theorem run (w : World) : HandSHeadRun.RunEq R (PySem.W.view R.prog [26]) hk ob 8000 loo w := by
  intro os
  kernel_rfl
end L2.HW.R_k51
set_option maxHeartbeats 200000
namespace L2.HW
open PySem PySem.Spec PyProof.Rows
def FldF (K : PySem.W.Frag) (mg : Str → Option Value) (c x : Str) : Prop := ∃ C, mg c = some (.ref C) ∧ Cls K C ∧ NoAttr K C x
theorem fld_of {K : PySem.W.Frag} {mg : Str → Option Value} {h : Heap} {c x : Str} (X : K.In h) (G : h.Ns mainGlobals mg) (a : (He.Fa.glo c).ok K = true) (b : (He.Fa.cls c).ok K = true) (d : (He.Fa.noat c x).ok K = true) : FldF K mg c x :=
  ⟨_, He.glo_ok X G a, He.cls_ok b, He.noat_ok d⟩
def putA (f : Str) (v : Va) : List (Str × Va) → List (Str × Va)
  | [] => [(f, v)]
  | (g, x) :: r => if g = f then (g, v) :: r else (g, x) :: putA f v r
section
variable {K : PySem.W.Frag} {mg : Str → Option Value} {M : Hp} {al : List Addr}
theorem frp_some {x : Str} {u : Va} : ∀ {ks : List (Str × V)} {fs : List (Str × Va)}, FRp K mg M al ks fs → fs.lookup x = some u → ∃ v, ks.lookup x = some v ∧ Rp K mg M al v u
  | _, _, .nil, e => by cases e
  | (g, v) :: ks, (g', w) :: fs, .cons ⟨h1, h2⟩ r, e => by
    have h1 : g = g' := h1
    subst h1
    rw [List.lookup_cons] at e ⊢
    by_cases q : (x == g) = true
    · rw [q] at e ⊢
      cases e
      exact ⟨v, rfl, h2⟩
    · rw [Bool.eq_false_iff.mpr q] at e ⊢
      exact frp_some r e
theorem frp_none {x : Str} : ∀ {ks : List (Str × V)} {fs : List (Str × Va)}, FRp K mg M al ks fs → fs.lookup x = none → ks.lookup x = none
  | _, _, .nil, _ => rfl
  | (g, v) :: ks, (g', w) :: fs, .cons ⟨h1, h2⟩ r, e => by
    have h1 : g = g' := h1
    subst h1
    rw [List.lookup_cons] at e ⊢
    by_cases q : (x == g) = true
    · rw [q] at e
      cases e
    · rw [Bool.eq_false_iff.mpr q] at e ⊢
      exact frp_none r e
theorem frp_put {x : Str} {v : V} {u : Va} (q : Rp K mg M al v u) : ∀ {ks : List (Str × V)} {fs : List (Str × Va)}, FRp K mg M al ks fs → FRp K mg M al (putF x v ks) (putA x u fs)
  | _, _, .nil => .cons ⟨rfl, q⟩ .nil
  | (g, v') :: ks, (g', w) :: fs, .cons ⟨h1, h2⟩ r => by
    have h1 : g = g' := h1
    subst h1
    unfold putF putA
    by_cases e : g = x
    · rw [if_pos e, if_pos e]
      exact .cons ⟨rfl, q⟩ r
    · rw [if_neg e, if_neg e]
      exact .cons ⟨rfl, h2⟩ (frp_put q r)
theorem loc_ins {H : Hp} {T : List Addr} {L : LH} {v : V} {n : Nat} {c : Str} {fs : List (Str × Va)} (r : Rel K mg H al T L) (q : Rp K mg (mask H (al ++ T)) al v (.loc n)) (e : L[n]? = some (some (.ins c fs))) :
    ∃ a C dx ks, v = .ref a ∧ al[n]? = some a ∧ mg c = some (.ref C) ∧ H a = some (.ins C dx ks) ∧ FRp K mg (mask H (al ++ T)) al ks fs := by
  cases q with
  | @loc _ a ea =>
    obtain ⟨b, eb, C, dx, ks, h1, h2, h3⟩ := r.cell n _ e
    rw [ea] at eb
    cases eb
    exact ⟨a, C, dx, ks, rfl, ea, h1, h2, h3⟩
end
section
variable {X : Cx} {Wx : WX} {k : Nat} {c x : Str} {e o value : Expr} {fe fo fv : EF} {pos pos' : Pos}
def eFld (c x : Str) (f : EF) : EF := fun env L => (f env L).bind fun w L1 => match w with
  | .loc n => match L1[n]? with
    | some (some (.ins c' fs)) => match fs.lookup x with
      | some u => if c' = c then .ok u L1 else .stuck
      | none => .stuck
    | _ => .stuck
  | _ => .stuck
@[simp] theorem u_eFld (c x : Str) (f : EF) (env : En) (L : LH) : eFld c x f env L = ((f env L).bind fun w L1 => match w with
  | .loc n => match L1[n]? with
    | some (some (.ins c' fs)) => match fs.lookup x with
      | some u => if c' = c then .ok u L1 else .stuck
      | none => .stuck
    | _ => .stuck
  | _ => .stuck) := (rfl)
theorem se_fld (F : FldF X.K X.mg c x) (he : SE X Wx e fe) (hb : attributeBase e x X.env (eval e X.env) = eval e X.env := by rfl) : SE X Wx (.Attribute e x pos) (eFld c x fe) := by
  obtain ⟨C, hC, cl, na⟩ := F
  refine PE.imp (pe_fld he hb) ?_
  rintro σ H Q ⟨env, L, al, U, cf, q⟩
  refine rseq (R := RV X) cf q fun v H1 w L1 al1 c1 s1 r1 q1 => ?_
  split at q1
  · rename_i n
    split at q1
    · rename_i c' fs e1
      split at q1
      · rename_i u e2
        split at q1
        · rename_i hc
          subst hc
          obtain ⟨a, C', dx, ks, rfl, ea, hc', hH, fr⟩ := loc_ins c1.rel r1 e1
          rw [hC] at hc'
          cases hc'
          obtain ⟨y, ey, ry⟩ := frp_some fr e2
          exact ⟨a, C, dx, ks, y, rfl, hH, cl, na, ey, gok c1.rel q1 ry⟩
        · exact q1.elim
      · exact q1.elim
    · exact q1.elim
  · exact q1.elim
def sFldS (c x : Str) (fo fv : EF) : SFn := fun env L => (fv env L).then env fun u L1 => (fo env L1).then env fun w L2 => match w with
  | .loc n => match L2[n]? with
    | some (some (.ins c' fs)) => if c' = c ∧ fs.length < 1000 then .nx env (L2.set n (some (.ins c' (putA x u fs)))) else .stuck
    | _ => .stuck
  | _ => .stuck
@[simp] theorem u_sFldS (c x : Str) (fo fv : EF) (env : En) (L : LH) : sFldS c x fo fv env L = ((fv env L).then env fun u L1 => (fo env L1).then env fun w L2 => match w with
  | .loc n => match L2[n]? with
    | some (some (.ins c' fs)) => if c' = c ∧ fs.length < 1000 then .nx env (L2.set n (some (.ins c' (putA x u fs)))) else .stuck
    | _ => .stuck
  | _ => .stuck) := (rfl)
theorem frp_len {K : PySem.W.Frag} {mg : Str → Option Value} {M : Hp} {al : List Addr} {ks : List (Str × V)} {fs : List (Str × Va)} (h : FRp K mg M al ks fs) : ks.length = fs.length := Paired.length h
theorem ss_fld (F : FldF X.K X.mg c x) (ho : SE X Wx o fo) (hv : SE X Wx value fv) (hs : swapsWith value (some (.Attribute o x pos')) pos.line X.env = pure false := by rfl) : SS X Wx (.Assign [.Attribute o x pos'] value pos) (sFldS c x fo fv) := by
  obtain ⟨C, hC, cl, na⟩ := F
  refine PS.imp (ps_fld ho hv hs) ?_
  rintro D σ H ⟨env, L, al, U, cf, q⟩
  refine sseq (R := RV X) cf q fun y H1 u L1 al1 c1 s1 r1 q1 => ?_
  refine sseq (R := RV X) c1 q1 fun v H2 w L2 al2 c2 s2 r2 q2 => ?_
  split at q2
  · rename_i n
    split at q2
    · rename_i c' fs e1
      split at q2
      · rename_i hc
        obtain ⟨hc, hz⟩ := hc
        subst hc
        obtain ⟨a, C', dx, ks, rfl, ea, hc', hH, fr⟩ := loc_ins c2.rel r2 e1
        rw [hC] at hc'
        cases hc'
        have m : mask (upd H2 a (.ins C dx (putF x y ks))) (al2 ++ U) = mask H2 (al2 ++ U) := mask_in (List.mem_append_left _ (List.mem_of_getElem? ea))
        have st : Stp X.K X.mg H2 al2 U L2 (upd H2 a (.ins C dx (putF x y ks))) al2 U (L2.set n (some (.ins c' (putA x u fs)))) := Rel.write c2.rel ea e1 ⟨C, dx, _, hC, upd_same, frp_put (s2.rp r1) fr⟩
        exact ⟨a, C, dx, ks, rfl, hH, cl, na, by rw [frp_len fr]; exact hz, q2 σ _ al2 st (c2.stp st)⟩
      · exact q2.elim
    · exact q2.elim
  · exact q2.elim
def sFldA (c x : Str) (fo fv : EF) : SFn := fun env L => (fo env L).then env fun w L1 => match w with
  | .loc n => match L1[n]? with
    | some (some (.ins c' fs)) => if c' = c then match fs.lookup x with
      | some (.d (.str s)) => (fv env L1).then env fun u L2 => match u with
        | .d (.str t) => match L2[n]? with
          | some (some (.ins c2 fs2)) => if c2 = c ∧ fs2.length < 1000 ∧ s.length + t.length ≤ sizeLine then .nx env (L2.set n (some (.ins c2 (putA x (.d (.str (s ++ t))) fs2)))) else .stuck
          | _ => .stuck
        | _ => .stuck
      | _ => .stuck else .stuck
    | _ => .stuck
  | _ => .stuck
@[simp] theorem u_sFldA (c x : Str) (fo fv : EF) (env : En) (L : LH) : sFldA c x fo fv env L = ((fo env L).then env fun w L1 => match w with
  | .loc n => match L1[n]? with
    | some (some (.ins c' fs)) => if c' = c then match fs.lookup x with
      | some (.d (.str s)) => (fv env L1).then env fun u L2 => match u with
        | .d (.str t) => match L2[n]? with
          | some (some (.ins c2 fs2)) => if c2 = c ∧ fs2.length < 1000 ∧ s.length + t.length ≤ sizeLine then .nx env (L2.set n (some (.ins c2 (putA x (.d (.str (s ++ t))) fs2)))) else .stuck
          | _ => .stuck
        | _ => .stuck
      | _ => .stuck else .stuck
    | _ => .stuck
  | _ => .stuck) := (rfl)
end
noncomputable def mkFnC (np nl : Nat) (body : SFn) : Fn := fun ws L => if ws.length = np then match body (ws.map some ++ List.replicate (nl - ws.length) none) L with
    | .nx _ L' => .ok (.d .none) L'
    | .rt w L' => .ok w L'
    | .exc c f _ L' => .exc c f L'
    | _ => .stuck
  else .stuck
theorem np_mkC {np nl : Nat} {body : SFn} : NP np (mkFnC np nl body) := fun ws L h => by unfold mkFnC; rw [if_neg h]
section
variable {P : Program} {w : World} {K : PySem.W.Frag} {mg : Str → Option Value} {base : Heap} {x qual : Str} {params : Arguments} {body : List Stmt} {scope : Scope} {dvs : List V} {kws : List (Str × V)} {f : Addr} {fd : FuncData}
theorem body_endC {H : Hp} {al T : List Addr} {L : LH} {X : Cx} {Q : VK} {E : XK} {np nl : Nat} {bf : SFn} {ws : List Va} (hl : ws.length = np)
    (h : NPost X.K X.mg H al T L (mkFnC np nl bf ws L) Q E) : SPost X (WxE E) H al T L (bf (ws.map some ++ List.replicate (nl - ws.length) none) L) { nx := fun _ H' => Q .non H', rt := Q } := by
  unfold mkFnC at h
  rw [if_pos hl] at h
  revert h
  generalize bf (ws.map some ++ List.replicate (nl - ws.length) none) L = r
  intro h
  cases r with
  | nx env' L' => exact fun σ' H' al' s c => h .non H' al' s (.d .non)
  | rt u L' => exact fun v H' al' s q => h v H' al' s q
  | rf o L' => exact h.elim
  | bk _ _ => exact h.elim
  | ct _ _ => exact h.elim
  | exc c f env' L' => exact fun cls d σ' H' al' s _ q => h cls d H' al' s q
  | stuck => exact h.elim
theorem fn_bodyC (F : FunD K x qual params body scope dvs kws f fd) {N ps : List Str} {k np nl : Nat} {bf : SFn} (S : FnScope N ps scope) (hnp : ps.length = np) (hnl : N.length = nl) (hle : np ≤ nl)
    (hb : ∀ (cdv : Value) (A : Around) (outer : List Env) (s : Shared) (H : Hp) (E : XK), A.guards = some [] → Room k (A.deeper (envOfC qual scope s.heap.objs.size f cdv)) → SB (cxOf (L2.CX P w) P w K mg base N qual scope f cdv A outer s H E) (WxE E) body bf) :
    FnG P w K mg base (L2.CX P w) (k + 1) f fd ps (spOf K mg np (mkFnC np nl bf)) := by
  refine fnG_of F S (fun vs H Q E h => by rw [h.1, hnp]) (fun cdv A outer s H vs Q E hg hr h => ⟨_, hb cdv A outer s H E hg hr, ?_⟩)
  obtain ⟨hl, ws, al, T, L, r, rs, h⟩ := h
  have e := Paired.length rs
  subst hnl
  refine ⟨_, L, al, T, conf_start r rs (by omega), ?_⟩
  exact body_endC (X := cxOf (L2.CX P w) P w K mg base N qual scope f cdv A outer s H E) (by omega) h
end
def HasM (P : Program) (w : World) (K : PySem.W.Frag) (mg : Str → Option Value) (base : Heap) (c m : Str) (ps : List Str) (k : Nat) (F : Fn) : Prop :=
  ∃ C f fd, mg c = some (.ref C) ∧ Cls K C ∧ Meth K C m f ∧ Binds K fd ps [] ∧ NP ps.length F ∧ FnG P w K mg base (L2.CX P w) k f fd ps (spOf K mg ps.length F)
def HasI (P : Program) (w : World) (K : PySem.W.Frag) (mg : Str → Option Value) (base : Heap) (c : Str) (ps : List Str) (k : Nat) (F : Fn) : Prop :=
  ∃ C f fd, mg c = some (.ref C) ∧ Mk K C f ∧ Binds K fd ps [] ∧ NP ps.length F ∧ FnG P w K mg base (L2.CX P w) k f fd ps (spOf K mg ps.length F)
def BindM (m q : Str) (st : Stmt) (ps : List Str) : Prop := ∀ (kV doc pm : Value) (an : Option Addr) (cdv ct : Value) (us : List Value), us.length = ps.length →
  bindArgs (PySem.W.fnOf m q (defArgs st) (defBody st) (defScope st) .none kV doc pm an cdv ct) ⟨us, []⟩ = pure (ps.zip us)
section
variable {X : Cx} {k : Nat} {C f : Addr} {fd : FuncData} {ps : List Str} {sp : Sp} {E : St → XK} {x m : Str} {p pos apos : Pos} {e o : Expr} {es : List Expr} {ta : TE} {t : TA}
def tMethG (C : Addr) (m : Str) (sp : Sp) (E : St → XK) (ta : TE) (t : TA) : TE := fun σ H Q => ta σ H fun x H1 => ∃ a dx fs, x = .ref a ∧ H1 a = some (.ins C dx fs) ∧ fs.lookup m = none ∧
  t σ H1 fun vs H2 => sp (x :: vs) H2 Q (E σ)
theorem pe_methG {pl : Sem Bool} (he : PE X o ta) (c : Cls X.K C) (hm : Meth X.K C m f) (F : FnG X.prog X.w X.K X.mg X.base (L2.CX X.prog X.w) k f fd ps sp) (hg0 : X.A.guards = some []) (hr : Room k X.A) (hb : Binds X.K fd ps []) (hx : ∀ σ, PassesAt (L2.CX X.prog X.w) X σ (E σ)) (ha : PA X (e :: es) t)
    (hst : starEach (e :: es) X.env = (false, eval e X.env) :: starEach es X.env) (hpl : (backTo pos (starEach es X.env)).any (·.1) = false)
    (ht : eval (.Call (.Attribute o m apos) (e :: es) [] pos) X.env = (do
      let ov ← eval o X.env
      standAt apos.atName
      let (f, first) ← holding [ov] (getMethod ov m pl)
      callWith pos f first (backTo pos (starEach (e :: es) X.env)) (backToKw pos (keywordEach [] X.env)))) :
    PE X (.Call (.Attribute o m apos) (e :: es) [] pos) (tMethG C m sp E ta t) := by
  refine ⟨fun pins s σ H Q I h => ?_⟩
  refine PySem.W.methodCall_KW (pl := pl) (thn (he.run pins s σ H _ I h) fun u s1 ⟨x, H1, I1, rx, a, dx, fs, ex, ea, l, q⟩ => ?_) ht
  subst ex
  obtain rfl : u = Value.ref a := rx
  refine getmeth_ok I1 ea c hm l ?_
  refine PySem.W.callWith_K (first := [.ref a]) (h₀ := X.base) I.ok.mod.kin hm.kp (thn (ha.run pos pins s1 σ H1 _ I1 q) fun us s2 ⟨vs, H2, I2, r, q2⟩ => ⟨I2.kIn, ?_⟩) hst hpl
  exact run_fnG (us := .ref a :: us) (vs := .ref a :: vs) F hg0 hr hb (hx σ) I2 (.cons rfl r) q2
theorem pe_methG0 {pl : Sem Bool} (he : PE X o ta) (c : Cls X.K C) (hm : Meth X.K C m f) (F : FnG X.prog X.w X.K X.mg X.base (L2.CX X.prog X.w) k f fd ps sp) (hg0 : X.A.guards = some []) (hr : Room k X.A) (hb : Binds X.K fd ps []) (hx : ∀ σ, PassesAt (L2.CX X.prog X.w) X σ (E σ))
    (ht : eval (.Call (.Attribute o m apos) [] [] pos) X.env = (do
      let ov ← eval o X.env
      standAt apos.atName
      let (f, first) ← holding [ov] (getMethod ov m pl)
      callWith pos f first (backTo pos (starEach [] X.env)) (backToKw pos (keywordEach [] X.env)))) :
    PE X (.Call (.Attribute o m apos) [] [] pos) (tMethG C m sp E ta tNil) := by
  refine ⟨fun pins s σ H Q I h => ?_⟩
  refine PySem.W.methodCall_KW (pl := pl) (thn (he.run pins s σ H _ I h) fun u s1 ⟨x, H1, I1, rx, a, dx, fs, ex, ea, l, q⟩ => ?_) ht
  subst ex
  obtain rfl : u = Value.ref a := rx
  refine getmeth_ok I1 ea c hm l ?_
  exact PySem.W.callWith_K0 (first := [.ref a]) I1.kIn hm.kp (run_fnG (us := [.ref a]) (vs := [.ref a]) F hg0 hr hb (hx σ) I1 (.cons rfl .nil) q)
theorem make_guards {A : Around} {C : Addr} {us : List Value} {kw : List (Str × Value)} : (A.under (.builtin "type.__call__" ⟨.ref C :: us, kw⟩)).guards = A.guards := by
  first | rfl | simp [Around.under, Code.weight, Code.isCreation, Code.isGuard, Code.isCaller, Code.frames, Code.isFrame, guardIds]
def tMakeG (C : Addr) (sp : Sp) (E : St → XK) (t : TA) : TE := fun σ H Q => t σ H fun vs H1 => ∀ x dx, H1 x = Option.none → H1 dx = Option.none → dx ≠ x →
  sp (V.ref x :: vs) (upd (upd H1 dx (.own x)) x (.ins C dx [])) (fun v H2 => v = .non ∧ Q (.ref x) H2) (E σ)
theorem run_makeG {pins : List (Addr × Obj)} {σ : L2.St} {H : Hp} {s : Shared} {Q : VK} {us : List Value} {vs : List V} {E : XK} (M : Mk X.K C f) (F : FnG X.prog X.w X.K X.mg X.base (L2.CX X.prog X.w) k f fd ps sp) (hg : X.A.guards = some []) (hr : Room (k + 1) X.A) (hb : Binds X.K fd ps [])
    (hx : PassesAt (L2.CX X.prog X.w) X σ E) (I : Inv X pins σ H s) (r : Vals vs us)
    (h : ∀ x dx, H x = Option.none → H dx = Option.none → dx ≠ x → sp (V.ref x :: vs) (upd (upd H dx (.own x)) x (.ins C dx [])) (fun v H2 => v = .non ∧ Q (.ref x) H2) E) :
    wpAny (model X.prog X.w) X.A (call (.ref C) us) (EP X pins σ Q) X.xe s := by
  have hq := h (s.heap.objs.size + 1) s.heap.objs.size (I.hok.fresh (Nat.le_succ _)) (I.hok.fresh (Nat.le_refl _)) (Nat.ne_of_lt (Nat.lt_succ_self _))
  have I2 := Inv.made (C := C) I
  have r2 : Vals (V.ref (s.heap.objs.size + 1) :: vs) (Value.ref (s.heap.objs.size + 1) :: us) := .cons rfl r
  have bt : ∀ t : Shared, X.K.In t.heap → BindsTo t fd ⟨Value.ref (s.heap.objs.size + 1) :: us, []⟩ (ps.zip (Value.ref (s.heap.objs.size + 1) :: us)) := fun t ht => by
    have z := hb t (Value.ref (s.heap.objs.size + 1) :: us) ht (by rw [List.append_nil, ← r2.length]; exact F.ln _ _ _ _ hq)
    rwa [List.append_nil] at z
  refine wpAny_call (make_map (f := f) I.kIn M.makes M.init (beq_iff_eq.mp M.fn) (codeAny_mono (F.go _ X.stack _ _ ⟨Value.ref (s.heap.objs.size + 1) :: us, []⟩ (Value.ref (s.heap.objs.size + 1) :: us) _ _ E (by rw [make_guards]; exact hg) (hr.make C us [])
    (I2.env0.make C us []) (bt _ I2.kIn) r2 hq) fun r s' hq' => ?_))
  cases r with
  | error e => exact hx pins _ _ e s' I2 hq'
  | ok fl =>
    cases fl with
    | ret u =>
      obtain ⟨v, H', I3, rv, ev, q3⟩ := I2.after hq'
      subst ev
      exact ⟨rv, ⟨V.ref (s.heap.objs.size + 1), H', I3, rfl, q3⟩⟩
    | next => exact False.elim hq'
    | brk => exact False.elim hq'
    | cont => exact False.elim hq'
theorem pe_makeG (M : Mk X.K C f) (F : FnG X.prog X.w X.K X.mg X.base (L2.CX X.prog X.w) k f fd ps sp) (hg0 : X.A.guards = some []) (hr : Room (k + 1) X.A) (hg : Gl X x) (hm : X.mg x = some (.ref C)) (hb : Binds X.K fd ps []) (hx : ∀ σ, PassesAt (L2.CX X.prog X.w) X σ (E σ)) (ha : PA X (e :: es) t)
    (hdb : (x == ("__debug__" : Str)) = false) (he : starEach (e :: es) X.env = (false, eval e X.env) :: starEach es X.env) (hpl : (backTo pos (starEach es X.env)).any (·.1) = false) :
    PE X (.Call (.Name x p) (e :: es) [] pos) (tMakeG C sp E t) := by
  refine ⟨fun pins s σ H Q I h => ?_⟩
  refine wpAny_Call_Name_kw (ld_glob I hg hm ?_ hdb)
  refine PySem.W.callWith_K (h₀ := X.base) I.ok.mod.kin M.kp (thn (ha.run pos pins s σ H _ I h) fun us s1 ⟨vs, H1, I1, r, q⟩ => ⟨I1.kIn, ?_⟩) he hpl
  exact run_makeG M F hg0 hr hb (hx σ) I1 r q
end
section
variable {X : Cx} {Wx : WX} {k j : Nat} {ps : List Str} {F : Fn} {c m : Str} {p pos apos : Pos} {e o : Expr} {es : List Expr} {fo : EF} {fs : En → LH → Res (List Va)}
def eCallM (c m : Str) (F : Fn) (fo : EF) (fs : En → LH → Res (List Va)) : EF := fun env L => (fo env L).bind fun w L1 => match w with
  | .loc n => match L1[n]? with
    | some (some (.ins c' gs)) => if c' = c ∧ gs.lookup m = none then (fs env L1).bind fun ws L2 => F (.loc n :: ws) L2 else .stuck
    | _ => .stuck
  | _ => .stuck
@[simp] theorem u_eCallM (c m : Str) (F : Fn) (fo : EF) (fs : En → LH → Res (List Va)) (env : En) (L : LH) : eCallM c m F fo fs env L = ((fo env L).bind fun w L1 => match w with
  | .loc n => match L1[n]? with
    | some (some (.ins c' gs)) => if c' = c ∧ gs.lookup m = none then (fs env L1).bind fun ws L2 => F (.loc n :: ws) L2 else .stuck
    | _ => .stuck
  | _ => .stuck) := (rfl)
theorem sp_of {K : PySem.W.Frag} {np : Nat} {σ : St} {H : Hp} {al T : List Addr} {L : LH} {Q : VK} {vs : List V} {ws : List Va} (n : NP np F) (r : Rel X.K X.mg H al T L) (rs : RVs X (mask H (al ++ T)) al vs ws) (q : GPost X Wx σ H al T L (RV X) (F ws L) Q) : spOf X.K X.mg np F vs H Q (WE Wx σ) := by
  have hl : ws.length = np := by
    by_cases z : ws.length = np
    · exact z
    · rw [n ws L z] at q; exact q.elim
  refine ⟨by rw [Paired.length rs, hl], ws, al, T, L, r, rs, ?_⟩
  revert q
  generalize F ws L = rr
  intro q
  cases rr with
  | ok w L2 => exact fun v H' al' s q' => q v H' al' s q'
  | exc c f L2 => exact fun cls d H' al' s q' => q cls d H' al' s q'
  | stuck => exact q
theorem meth_core {C : Addr} {σ : St} {H : Hp} {Q : VK} (n : NP ps.length F) (hC : X.mg c = some (.ref C)) (h : Rdg X Wx (RV X) (eCallM c m F fo fs) σ H Q) : tMethG C m (spOf X.K X.mg ps.length F) (WE Wx) (Rdg X Wx (RV X) fo) (Rdg X Wx (RVs X) fs) σ H Q := by
  obtain ⟨env, L, al, T, cf, q⟩ := h
  refine rseq (R := RV X) cf q fun v H1 w L1 al1 c1 s1 r1 q1 => ?_
  split at q1
  · rename_i n'
    split at q1
    · rename_i c' gs e1
      split at q1
      · rename_i hh
        obtain ⟨rfl, hn⟩ := hh
        obtain ⟨a, C', dx, ks, rfl, ea, hc', hH, fr⟩ := loc_ins c1.rel r1 e1
        rw [hC] at hc'
        cases hc'
        refine ⟨a, dx, ks, rfl, hH, frp_none fr hn, ?_⟩
        refine rseq (R := RVs X) c1 q1 fun vs H2 ws L2 al2 c2 s2 r2 q2 => ?_
        exact sp_of (K := X.K) n c2.rel (.cons (s2.rp r1) r2) q2
      · exact q1.elim
    · exact q1.elim
  · exact q1.elim
theorem w_meth (cx : Ctx X Wx k) (h : HasM X.prog X.w X.K X.mg X.base c m ps j F) (ho : SE X Wx o fo) (ha : SA X Wx (e :: es) fs) (hj : j ≤ k := by decide) {pl : Sem Bool}
    (hst : starEach (e :: es) X.env = (false, eval e X.env) :: starEach es X.env := by rfl) (hpl : (backTo pos (starEach es X.env)).any (·.1) = false := by rfl)
    (ht : eval (.Call (.Attribute o m apos) (e :: es) [] pos) X.env = (do
      let ov ← eval o X.env
      standAt apos.atName
      let (f, first) ← holding [ov] (getMethod ov m pl)
      callWith pos f first (backTo pos (starEach (e :: es) X.env)) (backToKw pos (keywordEach [] X.env))) := by rfl) : SE X Wx (.Call (.Attribute o m apos) (e :: es) [] pos) (eCallM c m F fo fs) := by
  obtain ⟨C, f, fd, h1, h2, h3, h4, h5, h6⟩ := h
  exact PE.imp (pe_methG (E := WE Wx) ho h2 h3 h6 cx.gd (cx.rm.mono hj) h4 (fun σ => passAt cx.tk σ) ha hst hpl ht) fun _ _ _ h => meth_core h5 h1 h
theorem w_meth0 (cx : Ctx X Wx k) (h : HasM X.prog X.w X.K X.mg X.base c m ps j F) (ho : SE X Wx o fo) (hj : j ≤ k := by decide) {pl : Sem Bool}
    (ht : eval (.Call (.Attribute o m apos) [] [] pos) X.env = (do
      let ov ← eval o X.env
      standAt apos.atName
      let (f, first) ← holding [ov] (getMethod ov m pl)
      callWith pos f first (backTo pos (starEach [] X.env)) (backToKw pos (keywordEach [] X.env))) := by rfl) : SE X Wx (.Call (.Attribute o m apos) [] [] pos) (eCallM c m F fo aNil) := by
  obtain ⟨C, f, fd, h1, h2, h3, h4, h5, h6⟩ := h
  refine PE.imp (pe_methG0 (E := WE Wx) ho h2 h3 h6 cx.gd (cx.rm.mono hj) h4 (fun σ => passAt cx.tk σ) ht) fun σ H Q h => ?_
  obtain ⟨env, L, al, T, cf, q⟩ := h
  refine rseq (R := RV X) cf q fun v H1 w L1 al1 c1 s1 r1 q1 => ?_
  split at q1
  · rename_i n'
    split at q1
    · rename_i c' gs e1
      split at q1
      · rename_i hh
        obtain ⟨rfl, hn⟩ := hh
        obtain ⟨a, C', dx, ks, rfl, ea, hc', hH, fr⟩ := loc_ins c1.rel r1 e1
        rw [h1] at hc'
        cases hc'
        exact ⟨a, dx, ks, rfl, hH, frp_none fr hn, sp_of (K := X.K) h5 c1.rel (.cons r1 .nil) q1⟩
      · exact q1.elim
    · exact q1.elim
  · exact q1.elim
def eMake (c : Str) (F : Fn) (fs : En → LH → Res (List Va)) : EF := fun env L => (fs env L).bind fun ws L1 => match F (.loc L1.length :: ws) (L1 ++ [some (.ins c [])]) with
  | .ok (.d .none) L2 => .ok (.loc L1.length) L2
  | .exc c f L2 => .exc c f L2
  | _ => .stuck
@[simp] theorem u_eMake (c : Str) (F : Fn) (fs : En → LH → Res (List Va)) (env : En) (L : LH) : eMake c F fs env L = ((fs env L).bind fun ws L1 => match F (.loc L1.length :: ws) (L1 ++ [some (.ins c [])]) with
  | .ok (.d .none) L2 => .ok (.loc L1.length) L2
  | .exc c f L2 => .exc c f L2
  | _ => .stuck) := (rfl)
theorem made_core {C : Addr} {np : Nat} {σ : St} {H1 : Hp} {al1 T : List Addr} {L1 : LH} {vs : List V} {ws : List Va} {Q : VK} (n : NP np F) (hC : X.mg c = some (.ref C)) (r1 : Rel X.K X.mg H1 al1 T L1) (rs : RVs X (mask H1 (al1 ++ T)) al1 vs ws)
    (q : GPost X Wx σ H1 al1 T L1 (RV X) (match F (.loc L1.length :: ws) (L1 ++ [some (.ins c [])]) with
      | .ok (.d .none) L2 => .ok (.loc L1.length) L2
      | .exc c f L2 => .exc c f L2
      | _ => .stuck) Q) : ∀ x dx, H1 x = Option.none → H1 dx = Option.none → dx ≠ x →
      spOf X.K X.mg np F (V.ref x :: vs) (upd (upd H1 dx (.own x)) x (.ins C dx [])) (fun v H2 => v = .non ∧ Q (.ref x) H2) (WE Wx σ) := by
  intro x dx hx hdx hne
  have sa := r1.alloc (o := .own x) hdx
  have hx' : upd H1 dx (.own x) x = none := by rw [upd_ne hne.symm]; exact hx
  have sb := sa.rel.allocT (o := .ins C dx []) hx'
  have sc := Stp.cell sa.rel hx' sb (ob := .ins c []) ⟨C, dx, [], hC, upd_same, .nil⟩
  have st := Stp.trans r1.len sa sc
  have hl : (Va.loc L1.length :: ws).length = np := by
    by_cases z : (Va.loc L1.length :: ws).length = np
    · exact z
    · rw [n _ _ z] at q; exact q.elim
  have al : al1.length = L1.length := r1.len
  have e0 : (al1 ++ [x])[L1.length]? = some x := by rw [← al, List.getElem?_append_right (Nat.le_refl _), Nat.sub_self]; rfl
  have hv : (V.ref x :: vs).length = np := by rw [← hl, List.length_cons, List.length_cons, Paired.length rs]
  refine ⟨hv, Va.loc L1.length :: ws, al1 ++ [x], T, L1 ++ [some (.ins c [])], st.rel, .cons (.loc e0) (st.rps rs), ?_⟩
  · revert q
    generalize F (.loc L1.length :: ws) (L1 ++ [some (.ins c [])]) = rr
    intro q
    cases rr with
    | ok w L2 =>
      cases w with
      | d y =>
        cases y with
        | none =>
          intro v H' al' s r
          have ev : v = .non := by
            cases r with
            | d q => cases q; rfl
          refine ⟨ev, q (.ref x) H' al' (Stp.trans r1.len st s) (.loc ?_)⟩
          exact s.ale L1.length x e0
        | _ => exact q.elim
      | _ => exact q.elim
    | exc c f L2 => exact fun cls d H' al' s q' => q cls d H' al' (Stp.trans r1.len st s) q'
    | stuck => exact q.elim
theorem w_make (cx : Ctx X Wx k) (h : HasI X.prog X.w X.K X.mg X.base c ps j F) (ha : SA X Wx (e :: es) fs) (hj : j + 1 ≤ k := by decide) (hg : Gl X c := by rfl) (hdb : (c == ("__debug__" : Str)) = false := by decide)
    (he : starEach (e :: es) X.env = (false, eval e X.env) :: starEach es X.env := by rfl) (hpl : (backTo pos (starEach es X.env)).any (·.1) = false := by rfl) : SE X Wx (.Call (.Name c p) (e :: es) [] pos) (eMake c F fs) := by
  obtain ⟨C, f, fd, h1, h2, h4, h5, h6⟩ := h
  refine PE.imp (pe_makeG (E := WE Wx) h2 h6 cx.gd (cx.rm.mono hj) hg h1 h4 (fun σ => passAt cx.tk σ) ha hdb he hpl) fun σ H Q h => ?_
  obtain ⟨env, L, al, T, cf, q⟩ := h
  refine rseq (R := RVs X) cf q fun vs H1 ws L1 al1 c1 s1 r1 q1 => ?_
  exact made_core h5 h1 c1.rel r1 q1
end
end L2.HW
namespace L2.HW
open PySem PySem.Spec PyProof.Rows
section
variable {P : Program} {w : World} {K : PySem.W.Frag} {mg : Str → Option Value} {base : Heap} {c m q : Str} {st : Stmt} {ps N : List Str} {k nl : Nat}
def DefM' (K : PySem.W.Frag) (mg : Str → Option Value) (c m q : Str) (st : Stmt) : Prop := ∃ C f fd, mg c = some (.ref C) ∧ Cls K C ∧ Meth K C m f ∧ FunD K m q (defArgs st) (defBody st) (defScope st) [] [] f fd
def DefI (K : PySem.W.Frag) (mg : Str → Option Value) (c q : Str) (st : Stmt) : Prop := ∃ C f fd, mg c = some (.ref C) ∧ Mk K C f ∧ FunD K "__init__" q (defArgs st) (defBody st) (defScope st) [] [] f fd
theorem hasM_of {bf : SFn} (D : DefM' K mg c m q st) (hb : BindM m q st ps) (S : FnScope N ps (defScope st)) (hnl : N.length = nl) (hle : ps.length ≤ nl)
    (h : ∀ (f : Addr) (cdv : Value) (A : Around) (outer : List Env) (s : Shared) (H : Hp) (E : XK), CtxF (cxOf (L2.CX P w) P w K mg base N q (defScope st) f cdv A outer s H E) (WxE E) k →
      SB (cxOf (L2.CX P w) P w K mg base N q (defScope st) f cdv A outer s H E) (WxE E) (defBody st) bf) : HasM P w K mg base c m ps (k + 1) (mkFnC ps.length nl bf) := by
  obtain ⟨C, f, fd, hc, cl, hm, F⟩ := D
  refine ⟨C, f, fd, hc, cl, hm, fun s us _ hl => by rw [List.append_nil] at hl ⊢; exact FunD.bindsA F hb s us hl, np_mkC, ?_⟩
  refine fn_bodyC F S rfl hnl hle fun cdv A outer s H E hg hr => h f cdv A outer s H E ⟨⟨hg, hr, takes_of rfl rfl rfl rfl, rfl, S.nd⟩, passes_of rfl⟩
theorem hasI_of {bf : SFn} (D : DefI K mg c q st) (hb : BindM "__init__" q st ps) (S : FnScope N ps (defScope st)) (hnl : N.length = nl) (hle : ps.length ≤ nl)
    (h : ∀ (f : Addr) (cdv : Value) (A : Around) (outer : List Env) (s : Shared) (H : Hp) (E : XK), CtxF (cxOf (L2.CX P w) P w K mg base N q (defScope st) f cdv A outer s H E) (WxE E) k →
      SB (cxOf (L2.CX P w) P w K mg base N q (defScope st) f cdv A outer s H E) (WxE E) (defBody st) bf) : HasI P w K mg base c ps (k + 1) (mkFnC ps.length nl bf) := by
  obtain ⟨C, f, fd, hc, hm, F⟩ := D
  refine ⟨C, f, fd, hc, hm, fun s us _ hl => by rw [List.append_nil] at hl ⊢; exact FunD.bindsA F hb s us hl, np_mkC, ?_⟩
  refine fn_bodyC F S rfl hnl hle fun cdv A outer s H E hg hr => h f cdv A outer s H E ⟨⟨hg, hr, takes_of rfl rfl rfl rfl, rfl, S.nd⟩, passes_of rfl⟩
end
section
variable {X : Cx} {Wx : WX} {k : Nat} {a b : Expr} {fa fb : EF} {pos : Pos}
def rEqE (K : PySem.W.Frag) (neg : Bool) : R2 := fun x y H Q => ∃ (l : Addr) (xs : List V) (e : Addr), x = .ref l ∧ SqL K H l xs ∧ y = .ref e ∧ SqL K H e [] ∧ Q (.bl (xor neg xs.isEmpty)) H
theorem op_eqE (hu : X.A.units + 64 < cLine) : OpR X (compareOp .Eq) (rEqE X.K false) := by
  intro pins s σ H x y v u Q I rx ry h
  obtain ⟨l, xs, e, rfl, hl, rfl, he, q⟩ := h
  obtain rfl : v = Value.ref l := rx
  obtain rfl : u = Value.ref e := ry
  obtain ⟨its, r, pl, _⟩ := I.list hl
  obtain ⟨its2, r2, pl2, _⟩ := I.list he
  cases r2
  have l1 : s.heap.IsList l its.toArray := by
    obtain ⟨o, n, g1, g2, _, g4⟩ := pl
    exact ⟨o, g1, g2, n, g4⟩
  have l2 : s.heap.IsList e ([] : List Value).toArray := by
    obtain ⟨o, n, g1, g2, _, g4⟩ := pl2
    exact ⟨o, g1, g2, n, g4⟩
  have hlen := r.length
  cases xs with
  | nil =>
    cases r
    refine PySem.SeqAt.eq_listAt (e := fun _ => true) l1 l2 rfl (by omega) (fun j h1 _ => absurd h1 (Nat.not_lt_zero _)) ?_
    exact ⟨.bl true, H, I, rfl, q⟩
  | cons z zs =>
    refine PySem.SeqAt.eq_list_lengthsAt l1 l2 ?_ (by omega) ⟨.bl false, H, I, rfl, q⟩
    have : its.length ≠ 0 := by rw [← hlen]; simp
    simp
    intro h
    rw [h] at this
    exact this rfl
def opEqE (neg : Bool) : Op2 := fun w u L => match w.items L, u.items L with
  | some ws, some [] => .ok (.d (.bool (xor neg ws.isEmpty))) L
  | _, _ => .stuck
theorem ok_eqE {neg : Bool} : Ok2 X (rEqE X.K neg) (opEqE neg) := by
  intro Wx σ H al T L x y w u Q r q1 q2 h
  unfold opEqE at h
  split at h
  · rename_i ws e1 e2
    obtain ⟨l, vs, rfl, h1, r1⟩ := items_ok r q1 e1
    obtain ⟨e, vs2, rfl, h2, r2⟩ := items_ok r q2 e2
    cases r2
    refine ⟨l, vs, e, rfl, SqL.of h1, rfl, SqL.of h2, ?_⟩
    have : vs.isEmpty = ws.isEmpty := by cases r1 <;> rfl
    rw [this]
    exact gok r h (.d (.bl _))
  · exact h.elim
@[simp] theorem u_opEqE (neg : Bool) w u L : opEqE neg w u L = (match w.items L, u.items L with
  | some ws, some [] => .ok (.d (.bool (xor neg ws.isEmpty))) L
  | _, _ => .stuck) := by unfold opEqE; exact (rfl)
theorem t_eqE (c : Ctx X Wx k) (ha : SE X Wx a fa) (hb : SE X Wx b fb) (hm : behindInMarks .Eq b = false := by rfl) : ST X Wx (.Compare a [.Eq] [b] pos) (tVal (eOp (opEqE false) fa fb)) := st_cmp (r := rEqE X.K false) (op_eqE c.u64) ok_eqE ha hb hm
variable {o : Expr} {fo : EF} {apos cpos : Pos}
theorem w_pop0 (ho : SE X Wx o fo) (hbase : attributeBase o "pop" X.env (eval o X.env) = eval o X.env := by rfl) (hline : (apos.endLine == cpos.line) = true := by rfl) : SE X Wx (.Call (.Attribute o "pop" apos) [] [] cpos) (eMeth isLs mPop0 fo aNil) :=
  se_meth0 PySem.F.plainAttrs_list PySem.F.slot_list_pop PySem.F.type_list_pop mt_pop ok_pop0 ty_list ho hbase hline
end
end L2.HW
namespace L2.HW
open PySem PySem.Spec PyProof.Rows
section
variable {X : Cx} {o : Expr} {x c : Str} {pos : Pos} {to : TE} {fo : EF}
def gFldT (K : PySem.W.Frag) (to : TE) (f : Str) : TG := fun v σ H Q => to σ H fun x H1 => ∃ a C dx fs, x = .ref a ∧ H1 a = some (.ins C dx fs) ∧ Cls K C ∧ NoAttr K C f ∧ fs.length < 1000 ∧ Q σ (upd H1 a (.ins C dx (putF f v fs)))
theorem pg_fldT (ho : PE X o to) : PG X (.Attribute o x pos) (gFldT X.K to x) := by
  refine ⟨fun pins s σ H v u Q I r h => ?_⟩
  rw [PySem.assign_Attribute]
  refine wpAny_bind (wpAny_holding (thn (ho.run pins s σ H _ I h) fun ov s1 ⟨y, H1, I1, r1, a, C, dx, fs, ex, ea, cl, n, l, q⟩ => ?_))
  subst ex
  obtain rfl : ov = Value.ref a := r1
  refine wpAny_bind (wpAny_standAt (wpAny_bind (wpAny_holding (setattr_ok I1 ea cl n l r fun s3 I3 => ?_))))
  exact wpAny_release ⟨σ, _, I3, q⟩
def tFldG (c x : Str) (fo : EF) : Va → En → LH → Res En := fun u env L => (fo env L).bind fun w L1 => match w with
  | .loc n => match L1[n]? with
    | some (some (.ins c' fs)) => if c' = c ∧ fs.length < 1000 then .ok env (L1.set n (some (.ins c' (putA x u fs)))) else .stuck
    | _ => .stuck
  | _ => .stuck
@[simp] theorem u_tFldG (c x : Str) (fo : EF) (u : Va) (env : En) (L : LH) : tFldG c x fo u env L = ((fo env L).bind fun w L1 => match w with
  | .loc n => match L1[n]? with
    | some (some (.ins c' fs)) => if c' = c ∧ fs.length < 1000 then .ok env (L1.set n (some (.ins c' (putA x u fs)))) else .stuck
    | _ => .stuck
  | _ => .stuck) := (rfl)
theorem sg_fldT (F : FldF X.K X.mg c x) (ho : SE X (fun _ _ _ _ => False) o fo) : SG X [] (.Attribute o x pos) (tFldG c x fo) := by
  obtain ⟨C, hC, cl, na⟩ := F
  refine PG.imp (pg_fldT ho) ?_
  rintro v σ H Q ⟨u, env, L, al, T, cf, r, h⟩
  unfold tFldG at h
  have e1 : GPost X (fun _ _ _ _ => False) σ H al T L (RV X) (fo env L) fun y H1 => ∃ a C dx fs, y = .ref a ∧ H1 a = some (.ins C dx fs) ∧ Cls X.K C ∧ NoAttr X.K C x ∧ fs.length < 1000 ∧ Q σ (upd H1 a (.ins C dx (putF x v fs))) := by
    revert h
    generalize fo env L = r1
    intro h
    cases r1 with
    | stuck => exact h
    | exc _ _ _ => exact h.elim
    | ok wo L1 =>
      intro ov H1 al1 s1 ro
      have c1 := cf.stp s1
      have rv := s1.rp r
      have h3 := TPost.on cf.rel.len s1 h
      clear h
      simp only [Res.bind_ok] at h3
      split at h3
      · rename_i n
        split at h3
        · rename_i c' fs e4
          split at h3
          · rename_i hc
            obtain ⟨hc, hz⟩ := hc
            subst hc
            obtain ⟨a, C', dx, ks, rfl, ea, hc', hH, fr⟩ := loc_ins c1.rel ro e4
            rw [hC] at hc'
            cases hc'
            have st : Stp X.K X.mg H1 al1 T L1 (upd H1 a (.ins C dx (putF x v ks))) al1 T (L1.set n (some (.ins c' (putA x u fs)))) := Rel.write c1.rel ea e4 ⟨C, dx, _, hC, upd_same, frp_put rv fr⟩
            exact ⟨a, C, dx, ks, rfl, hH, cl, na, by rw [frp_len fr]; exact hz, h3 _ _ _ st (c1.stp st) (Agr.refl _ _)⟩
          · exact h3.elim
        · exact h3.elim
      · exact h3.elim
  exact ⟨env, L, al, T, cf, e1⟩
end
end L2.HW
namespace L2.HW
open PySem PySem.Spec PyProof.Rows
theorem run_fnA {X : Cx} {A : Around} {CX : CXT} {k : Nat} {f : Addr} {fd : FuncData} {ps : List Str} {sp : Sp} {E : St → XK} {pins : List (Addr × Obj)} {σ : St} {H : Hp} {s : Shared} {Q : VK} {us : List Value} {vs : List V}
    (F : FnG X.prog X.w X.K X.mg X.base CX k f fd ps sp) (hg : A.guards = some []) (hf : A.frames = X.A.frames) (hr : Room k A) (hb : Binds X.K fd ps []) (hx : PassesAt CX X σ (E σ)) (I : Inv X pins σ H s) (rv : Vals vs us) (h : sp vs H Q (E σ)) :
    wpAny (model X.prog X.w) A (call (.ref f) us) (EP X pins σ Q) X.xe s := by
  have bt : BindsTo s fd ⟨us, []⟩ (ps.zip us) := by
    have z := hb s us I.kIn (by rw [List.append_nil, ← rv.length]; exact F.ln _ _ _ _ h)
    rwa [List.append_nil] at z
  have e0 : Env0 X.prog X.w X.K X.mg X.base A X.stack s H := by
    have e := I.env0
    exact ⟨by rw [hf]; exact e.frames, e.mod, e.bs, e.bsz, e.funs, e.frf, e.hok, e.bare⟩
  refine wpAny_call (codeAny_mono (F.go A X.stack s H ⟨us, []⟩ us vs Q (E σ) hg hr e0 bt rv h) ?_)
  intro r s2 z
  match r, z with
  | .error e, z => exact hx pins H s e s2 I z
  | .ok (.ret u), z => exact I.after z
  | .ok .next, z => exact z.elim
  | .ok .brk, z => exact z.elim
  | .ok .cont, z => exact z.elim
def HasS (P : Program) (w : World) (K : PySem.W.Frag) (mg : Str → Option Value) (base : Heap) (c m : Str) (ps : List Str) (k : Nat) (F : Fn) : Prop :=
  ∃ C f fd, mg c = some (.ref C) ∧ PySem.W.findIn K (.ref C) m = some (some (.ref f)) ∧ PySem.W.isFn K (.ref f) = true ∧ PySem.W.fnIn K f = true ∧ Binds K fd ps [] ∧ NP ps.length F ∧ FnG P w K mg base (L2.CX P w) k f fd ps (spOf K mg ps.length F)
section
variable {X : Cx} {Wx : WX} {k j : Nat} {ps : List Str} {F : Fn} {c : Str} {C f : Addr} {fd : FuncData} {sp : Sp} {E : St → XK}
theorem len_ins {pins : List (Addr × Obj)} {σ : L2.St} {H : Hp} {s : Shared} {Q : VK} {a dx : Addr} {fs : List (Str × V)} (hs : PySem.W.findIn X.K (.ref C) "__len__" = some (some (.ref f))) (hf : PySem.W.isFn X.K (.ref f) = true) (F : FnG X.prog X.w X.K X.mg X.base (L2.CX X.prog X.w) k f fd ps sp) (hg : X.A.guards = some []) (hr : Room (k + 1) X.A) (hb : Binds X.K fd ps [])
    (hx : PassesAt (L2.CX X.prog X.w) X σ (E σ)) (I : Inv X pins σ H s) (ha : H a = some (.ins C dx fs)) (h : sp [.ref a] H (fun v H' => ∃ n : Int, v = .int n ∧ 0 ≤ n ∧ n < 2 ^ 63 ∧ Q v H') (E σ)) :
    wpAny (model X.prog X.w) X.A (call (.builtin "len") [.ref a]) (EP X pins σ Q) X.xe s := by
  obtain ⟨mA, J, _⟩ := ins_get I.hok ha
  obtain ⟨od, J, _⟩ := J.look
  obtain ⟨m, hF⟩ := I.fr
  refine PySem.W.len_K hF I.ok.mod.kin J hs hf ?_
  refine wpAny_mono (run_fnA (A := X.A.in1) (us := [.ref a]) (vs := [.ref a]) F hg rfl hr.in1 hb hx I (.cons rfl .nil) h) (fun r s' z => ?_) fun _ _ x => x
  obtain ⟨v, H', I', rv, n, rfl, h0, h1, q⟩ := z
  obtain ⟨t, rfl⟩ := rv
  exact ⟨⟨h0, h1⟩, .int n, H', I'.tok _, ⟨_, rfl⟩, q⟩
theorem iop_ins {op : Operator} {pins : List (Addr × Obj)} {σ : L2.St} {H : Hp} {s : Shared} {Q : VK} {a dx : Addr} {fs : List (Str × V)} {y : V} {u : Value} (hc : PySem.W.selfFirst X.K C = true) (hs : PySem.W.findIn X.K (.ref C) (PySem.dunderI op.info.2) = some (some (.ref f))) (hf : PySem.W.isFn X.K (.ref f) = true) (F : FnG X.prog X.w X.K X.mg X.base (L2.CX X.prog X.w) k f fd ps sp) (hg : X.A.guards = some []) (hr : Room k X.A) (hb : Binds X.K fd ps [])
    (hx : PassesAt (L2.CX X.prog X.w) X σ (E σ)) (I : Inv X pins σ H s) (ha : H a = some (.ins C dx fs)) (ry : RelV y u) (h : sp [.ref a, y] H (fun v H' => (∃ b, v = .ref b) ∧ Q v H') (E σ)) :
    wpAny (model X.prog X.w) X.A (inplaceOp op (.ref a) u) (EP X pins σ Q) X.xe s := by
  obtain ⟨mA, J, _⟩ := ins_get I.hok ha
  obtain ⟨od, J, _⟩ := J.look
  obtain ⟨m, hF⟩ := I.fr
  refine PySem.W.ksp_inplace hF I.ok.mod.kin J hc hs hf ?_
  refine wpAny_mono (run_fnA (A := X.A) (us := [.ref a, u]) (vs := [.ref a, y]) F hg rfl hr hb hx I (.cons rfl (.cons ry .nil)) h) (fun r s' z => ?_) fun _ _ x => x
  obtain ⟨v, H', I', rv, ⟨b, rfl⟩, q⟩ := z
  obtain rfl : r = Value.ref b := rv
  exact ⟨.ref b, H', I', rfl, q⟩
end
section
variable {X : Cx} {Wx : WX} {k j : Nat} {ps : List Str} {F : Fn} {c : Str} {p pos : Pos} {e o : Expr} {fs : En → LH → Res (List Va)} {fo fi : EF}
def lenOk (r : Res Va) : Res Va := r.bind fun u L => match u with
  | .d (.int i) => if 0 ≤ i ∧ i < 2 ^ 63 then .ok u L else .stuck
  | _ => .stuck
def eLenO (c : Str) (F : Fn) (fs : En → LH → Res (List Va)) : EF := fun env L => (fs env L).bind fun ws L1 => match ws with
  | [.loc n] => match L1[n]? with
    | some (some (.ins c' _)) => if c' = c then lenOk (F [.loc n] L1) else .stuck
    | _ => .stuck
  | _ => .stuck
@[simp] theorem u_eLenO (c : Str) (F : Fn) (fs : En → LH → Res (List Va)) (env : En) (L : LH) : eLenO c F fs env L = ((fs env L).bind fun ws L1 => match ws with
  | [.loc n] => match L1[n]? with
    | some (some (.ins c' _)) => if c' = c then lenOk (F [.loc n] L1) else .stuck
    | _ => .stuck
  | _ => .stuck) := (rfl)
theorem w_lenO (cx : Ctx X Wx k) (h : HasS X.prog X.w X.K X.mg X.base c "__len__" ps j F) (ha : SA X Wx [e] fs) (hj : j + 1 ≤ k := by decide) (hg : Gl X "len" := by rfl) (hm : X.mg "len" = none)
    (he : starEach [e] X.env = (false, eval e X.env) :: starEach [] X.env := by rfl) (hpl : (backTo pos (starEach [] X.env)).any (·.1) = false := by rfl) :
    SE X Wx (.Call (.Name "len" p) [e] [] pos) (eLenO c F fs) := by
  obtain ⟨C, f, fd, h1, h2, h3, h4, h5, h6, h7⟩ := h
  refine ⟨fun pins s σ H Q I q => ?_⟩
  refine wpAny_Call_Name_kw (ld_blt I hg hm rfl ?_ (by decide) (by decide))
  obtain ⟨env, L, al, T, cf, q⟩ := q
  have key : Rdg X Wx (RVs X) fs σ H (fun vs H1 => ∃ a dx gs, vs = [V.ref a] ∧ H1 a = some (.ins C dx gs) ∧ spOf X.K X.mg ps.length F [.ref a] H1 (fun v H' => ∃ n : Int, v = .int n ∧ 0 ≤ n ∧ n < 2 ^ 63 ∧ Q v H') (WE Wx σ)) := by
    refine rseq (R := RVs X) cf q fun vs H1 ws L1 al1 c1 s1 r1 q1 => ?_
    split at q1
    · rename_i n
      split at q1
      · rename_i c' gs e1
        split at q1
        · rename_i hc
          subst hc
          cases r1 with
          | cons r2 r3 =>
            cases r3
            obtain ⟨a, C', dx, ks, rfl, ea, hc', hH, fr⟩ := loc_ins c1.rel r2 e1
            rw [h1] at hc'
            cases hc'
            refine ⟨a, dx, ks, rfl, hH, sp_of (K := X.K) h6 c1.rel (.cons r2 .nil) ?_⟩
            revert q1
            unfold lenOk
            generalize F [.loc n] L1 = rr
            intro q1
            cases rr with
            | stuck => exact q1
            | exc _ _ _ => exact q1
            | ok u L2 =>
              intro v H' al' st rv
              simp only [Res.bind_ok] at q1
              split at q1
              · rename_i i
                split at q1
                · rename_i hi
                  have ev : v = .int i := dq_int (rp_d rv)
                  exact ⟨i, ev, hi.1, hi.2, q1 v H' al' st rv⟩
                · exact q1.elim
              · exact q1.elim
        · exact q1.elim
      · exact q1.elim
    · exact q1.elim
  refine PyProof.Rows.callWith_builtin1 (thn (ha.run pos pins s σ H _ I key) fun us s1 ⟨vs, H1, I1, r1, a, dx, gs, ev, ea, sp⟩ => ?_) he hpl
  subst ev
  obtain ⟨u, rfl, ru⟩ := vals1 r1
  obtain rfl : u = Value.ref a := ru
  exact len_ins (E := WE Wx) h2 h3 h7 cx.gd (cx.rm.mono hj) h5 (passAt cx.tk σ) I1 ea sp
end
section
variable {X : Cx} {Wx : WX} {k j : Nat} {ps : List Str} {F : Fn} {c : Str} {p pos : Pos} {a b : Expr} {fa fb : EF}
def insF (c : Str) (F : Fn) (w : Va) (us : List Va) (L : LH) : Res Va := match w with
  | .loc n => match L[n]? with
    | some (some (.ins c' _)) => if c' = c then F (.loc n :: us) L else .stuck
    | _ => .stuck
  | _ => .stuck
@[simp] theorem u_insF (c : Str) (F : Fn) (n : Nat) (us : List Va) (L : LH) : insF c F (.loc n) us L = (match L[n]? with
    | some (some (.ins c' _)) => if c' = c then F (.loc n :: us) L else .stuck
    | _ => .stuck) := (rfl)
theorem insF_core {C : Addr} {np : Nat} {σ : St} {H : Hp} {al T : List Addr} {L : LH} {Q : VK} {x : V} {w : Va} {ys : List V} {us : List Va} (n : NP np F) (hC : X.mg c = some (.ref C)) (r : Rel X.K X.mg H al T L) (rx : RV X (mask H (al ++ T)) al x w) (rs : RVs X (mask H (al ++ T)) al ys us)
    (q : GPost X Wx σ H al T L (RV X) (insF c F w us L) Q) : ∃ a dx gs, x = .ref a ∧ H a = some (.ins C dx gs) ∧ spOf X.K X.mg np F (.ref a :: ys) H Q (WE Wx σ) := by
  unfold insF at q
  split at q
  · rename_i n'
    split at q
    · rename_i c' gs e1
      split at q
      · rename_i hc
        subst hc
        obtain ⟨a, C', dx, ks, rfl, ea, hc', hH, fr⟩ := loc_ins r rx e1
        rw [hC] at hc'
        cases hc'
        exact ⟨a, dx, ks, rfl, hH, sp_of (K := X.K) n r (.cons rx rs) q⟩
      · exact q.elim
    · exact q.elim
  · exact q.elim
def eSubO (c : Str) (F : Fn) (fa fb : EF) : EF := fun env L => (fa env L).bind fun w L1 => (fb env L1).bind fun u L2 => insF c F w [u] L2
@[simp] theorem u_eSubO (c : Str) (F : Fn) (fa fb : EF) (env : En) (L : LH) : eSubO c F fa fb env L = ((fa env L).bind fun w L1 => (fb env L1).bind fun u L2 => insF c F w [u] L2) := (rfl)
end
structure IsO (K : PySem.W.Frag) (C : Addr) : Prop where
  cl : Cls K C
  cc : PySem.W.findIn K (.ref C) "__class__" = some (some (.builtin "object.__class__"))
  sp : PySem.W.specialIn K (.builtin "object.__class__") "__get__" = some (some (.builtin "getset_descriptor.__get__"))
  tk : PySem.W.takesIn K (.builtin "object.__class__") = some true
  mo : PySem.W.mroIn K C (.type "object") = some true
  ys : PySem.W.kitOne K (.ref C) (.ref C) = some true
  no : ∀ k ∈ kinds, PySem.W.kitOne K (.type k) (.ref C) = some false
theorem isOB_ok {K : PySem.W.Frag} {C : Addr} (c : Cls K C) (h : isOB K C = true) : IsO K C := by
  unfold isOB at h
  simp only [Bool.and_eq_true, decide_eq_true_eq, List.all_eq_true] at h
  obtain ⟨h1, h2, h3, h4, h5, h6⟩ := h
  exact ⟨c, h1, h2, h3, h4, h5, h6⟩
def IsC (K : PySem.W.Frag) (mg : Str → Option Value) (c : Str) : Prop := ∃ C, mg c = some (.ref C) ∧ IsO K C ∧ PySem.W.selfFirst K C = true
def eIsO (c : Str) (f : EF) : EF := fun env L => (f env L).bind fun w L1 => match w.kind L1 with
  | some _ => .ok (.d (.bool false)) L1
  | none => match w with
    | .loc n => match L1[n]? with
      | some (some (.ins c' _)) => if c' = c then .ok (.d (.bool true)) L1 else .stuck
      | _ => .stuck
    | _ => .stuck
@[simp] theorem u_eIsO (c : Str) (f : EF) (env : En) (L : LH) : eIsO c f env L = ((f env L).bind fun w L1 => match w.kind L1 with
  | some _ => .ok (.d (.bool false)) L1
  | none => match w with
    | .loc n => match L1[n]? with
      | some (some (.ins c' _)) => if c' = c then .ok (.d (.bool true)) L1 else .stuck
      | _ => .stuck
    | _ => .stuck) := (rfl)
section
variable {X : Cx} {Wx : WX} {k : Nat} {c : Str} {p q pos : Pos} {e : Expr} {f : EF}
theorem se_isO (h : IsC X.K X.mg c) (hg : Gl X "isinstance") (hm : X.mg "isinstance" = none) (ha : SE X Wx e f) (hg2 : Gl X c := by rfl) (hd2 : (c == ("__debug__" : Str)) = false := by decide)
    (he : starEach (e :: [.Name c q]) X.env = (false, eval e X.env) :: starEach [.Name c q] X.env := by rfl) : SE X Wx (.Call (.Name "isinstance" p) [e, .Name c q] [] pos) (eIsO c f) := by
  obtain ⟨C, hC, o, _⟩ := h
  refine PE.imp (pe_callB call_isi hg hm (by decide +kernel) (pa_cons ha (pa_cons (pe_glob (v := .ref C) hg2 hC rfl hd2) pa_nil) he) (by decide) (by decide) he rfl) ?_
  rintro σ H Q ⟨env, L, al, T', cf, h⟩
  refine rseq (R := RV X) cf h fun v H1 w L1 al1 c1 s1 r1 q1 => ?_
  split at q1
  · rename_i kk ek
    exact ⟨v, .ref C, .type kk, .ref C, false, rfl, .own C, kind_ok c1.rel r1 ek, o.no kk (kind_mem ek), gok c1.rel q1 (.d (.bl _))⟩
  · split at q1
    · rename_i n
      split at q1
      · rename_i c' gs e1
        split at q1
        · rename_i hc
          subst hc
          obtain ⟨a, C', dx, ks, rfl, ea, hc', hH, fr⟩ := loc_ins c1.rel r1 e1
          rw [hC] at hc'
          cases hc'
          exact ⟨.ref a, .ref C, .ref C, .ref C, true, rfl, .own C, .base (.ins hH o.cl o.cc o.sp o.tk o.mo), o.ys, gok c1.rel q1 (.d (.bl _))⟩
        · exact q1.elim
      · exact q1.elim
    · exact q1.elim
end
def sAugO (c : Str) (F : Fn) (i : Nat) (f : EF) : SFn := fun env L => match env[i]? with
  | some (some w) => (f env L).then env fun u L1 => (insF c F w [u] L1).then env fun r L2 => match r with
    | .loc m => .nx (env.set i (some (.loc m))) L2
    | _ => .stuck
  | _ => .stuck
@[simp] theorem u_sAugO (c : Str) (F : Fn) (i : Nat) (f : EF) (env : En) (L : LH) : sAugO c F i f env L = (match env[i]? with
  | some (some w) => (f env L).then env fun u L1 => (insF c F w [u] L1).then env fun r L2 => match r with
    | .loc m => .nx (env.set i (some (.loc m))) L2
    | _ => .stuck
  | _ => .stuck) := (rfl)
section
variable {X : Cx} {Wx : WX} {k j : Nat} {ps : List Str} {F : Fn} {c : Str} {p pos pos' : Pos} {i : Nat} {x : Str} {e : Expr} {f : EF} {op : Operator}
theorem ss_augO (cx : Ctx X Wx k) (hC : IsC X.K X.mg c) (h : HasS X.prog X.w X.K X.mg X.base c (PySem.dunderI op.info.2) ps j F) (hN : X.N.Nodup) (hi : X.N[i]? = some x) (hx : Loc X.env.scope x) (he : SE X Wx e f) (hj : j ≤ k := by decide)
    (hf : X.fn x = true ∨ X.env.scope.names.lookup x = some .local := by first | exact .inl rfl | exact .inr rfl | assumption) : SS X Wx (.AugAssign (.Name x pos') op e pos) (sAugO c F i f) := by
  obtain ⟨C, g, fd, h1, h2, h3, h4, h5, h6, h7⟩ := h
  obtain ⟨C9, hC1, _, hc⟩ := hC
  rw [h1] at hC1
  cases hC1
  refine ⟨fun pins s σ H D I q => ?_⟩
  obtain ⟨env, L, al, T, cf, q⟩ := q
  unfold sAugO at q
  split at q
  · rename_i w en
    obtain ⟨v, e1, rv⟩ := cf.slot i _ en
    have key : Rdg X Wx (RV X) f σ H (fun y H1 => ∃ a dx gs, v = .ref a ∧ H1 a = some (.ins C dx gs) ∧ spOf X.K X.mg ps.length F (.ref a :: [y]) H1 (fun z H2 => (∃ b, z = .ref b) ∧ D.nx (σ.set i (some z)) H2) (WE Wx σ)) := by
      refine sseq (R := RV X) cf q fun y H1 u L1 al1 c1 s1 r1 q1 => ?_
      refine insF_core h6 h1 c1.rel (s1.rp rv) (.cons r1 .nil) (w := w) (us := [u]) ?_
      revert q1
      generalize insF c F w [u] L1 = rr
      intro q1
      cases rr with
      | stuck => exact q1
      | exc c' f' L2 => exact fun cls d H' al' st ee => q1 cls d σ H' al' st (c1.stp st) ee
      | ok r L2 =>
        intro z H' al' st rz
        have q2 := SPost.on c1.rel.len st q1
        have c2 := c1.stp st
        clear q1
        cases r with
        | loc m =>
          have c3 := c2.put (i := i) rz
          cases rz with
          | loc e2 => exact ⟨⟨_, rfl⟩, sok c3 (SPost.on c2.rel.len (Stp.refl c2.rel) q2)⟩
        | _ => exact q2.elim
    obtain ⟨m, hn, hl⟩ := I.loc
    have vis : Vis X.env.scope x := by rcases hx with k | k; exact .inl k; exact .inr (.inl k)
    obtain ⟨u, r, l⟩ := hl i x v hi e1 vis
    refine wpAny_AugAssign_Name ?_
    have go : wpAny (model X.prog X.w) X.A (eval e X.env) (fun w s₂ => wpAny (model X.prog X.w) X.A (inplaceOp op u w) (fun r s₃ => wpAny (model X.prog X.w) X.A (storeName X.env x r) (fun _ => SP X pins D .next) X.xe s₃) X.xe s₂) X.xe s := by
      refine thn (he.run pins s σ H _ I key) fun w s1 ⟨y, H1, I1, r1, a, dx, gs, ev, ea, q1⟩ => ?_
      subst ev
      obtain rfl : u = Value.ref a := r
      refine thn (iop_ins (E := WE Wx) hc h2 h3 h7 cx.gd (cx.rm.mono hj) h5 (passAt cx.tk σ) I1 ea r1 q1) fun z s2 ⟨zv, H2, I2, r2, q2⟩ => ?_
      exact store_ok I2 hN hi hx r2 (fun s3 I3 => ⟨_, H2, I3, q2⟩) hf
    rcases l with ⟨hk, hm⟩ | ⟨hk, c, hc, hcell⟩
    · exact wpAny_loadName_local I.ok.kind hk hn hm go
    · rcases hk with hk | hk
      · exact wpAny_loadName_cell I.ok.kind hk hc hcell go
      · rcases hx with k | k
        · have : X.env.scope.names.lookup x = some .free := hk
          rw [k] at this; cases this
        · have : X.env.scope.names.lookup x = some .free := hk
          rw [k] at this; cases this
  · exact q.elim
end
section
variable {P : Program} {w : World} {K : PySem.W.Frag} {mg : Str → Option Value} {base : Heap} {c m q : Str} {st : Stmt} {ps N : List Str} {k nl : Nat}
theorem hasS_of {bf : SFn} (D : DefM' K mg c m q st) (hb : BindM m q st ps) (S : FnScope N ps (defScope st)) (hnl : N.length = nl) (hle : ps.length ≤ nl)
    (h : ∀ (f : Addr) (cdv : Value) (A : Around) (outer : List Env) (s : Shared) (H : Hp) (E : XK), CtxF (cxOf (L2.CX P w) P w K mg base N q (defScope st) f cdv A outer s H E) (WxE E) k →
      SB (cxOf (L2.CX P w) P w K mg base N q (defScope st) f cdv A outer s H E) (WxE E) (defBody st) bf) : HasS P w K mg base c m ps (k + 1) (mkFnC ps.length nl bf) := by
  obtain ⟨C, f, fd, hc, cl, hm, F⟩ := D
  have hfn : PySem.W.fnIn K f = true := by
    obtain ⟨oc, od, dV, kV, doc, pm, an, cdv, ct, osl, _, lk, _⟩ := F.ex
    unfold PySem.W.fnIn
    rw [lk]
  refine ⟨C, f, fd, hc, hm.at_, hm.fn, hfn, fun s us _ hl => by rw [List.append_nil] at hl ⊢; exact FunD.bindsA F hb s us hl, np_mkC, ?_⟩
  refine fn_bodyC F S rfl hnl hle fun cdv A outer s H E hg hr => h f cdv A outer s H E ⟨⟨hg, hr, takes_of rfl rfl rfl rfl, rfl, S.nd⟩, passes_of rfl⟩
end
section
variable {X : Cx} {Wx : WX} {k j : Nat} {ps : List Str} {F : Fn} {c : Str} {p pos : Pos} {a b : Expr} {fa fb : EF}
def blOk (r : Res Va) : Res Va := r.bind fun u L => match u with
  | .d (.bool _) => .ok u L
  | _ => .stuck
def eInO (c : Str) (F : Fn) (fa fb : EF) : EF := fun env L => (fa env L).bind fun u L1 => (fb env L1).bind fun w L2 => blOk (insF c F w [u] L2)
@[simp] theorem u_eInO (c : Str) (F : Fn) (fa fb : EF) (env : En) (L : LH) : eInO c F fa fb env L = ((fa env L).bind fun u L1 => (fb env L1).bind fun w L2 => blOk (insF c F w [u] L2)) := (rfl)
end
theorem isC_of {K : PySem.W.Frag} {mg : Str → Option Value} {h : Heap} {c : Str} (X : K.In h) (G : h.Ns mainGlobals mg) (g : (He.Fa.glo c).ok K = true) (k : (He.Fa.cls c).ok K = true) (e : ownB K c = true) : IsC K mg c := by
  unfold ownB at e
  obtain ⟨e1, e2⟩ := Bool.and_eq_true_iff.mp e
  exact ⟨_, He.glo_ok X G g, isOB_ok (He.cls_ok k) e1, e2⟩
end L2.HW
namespace L2.HW
open PySem PySem.Spec PyProof.Rows PySem.W Builtin
section
variable {prog : Program} {w : World} {A A₀ : Around} {E : Value → Shared → Prop} {s : Shared} {K : Frag} {x C L f : Addr} {h₀ : Heap} {m : Str → Option Value} {ox : Obj} {od : Option Obj} {name : Str} {b tb : Value}
theorem ifBound_B {M : Model} {args : List Value} {id : String} {T : String} {Q : Option Value → Shared → Prop} (X : K.In s.heap) (I : InstAt s.heap x ox C od) (hs : findIn K (.ref C) name = some (some (.builtin id))) (hb : ∀ self, bindSpecial (.builtin id) self = pure (.builtin id, [self]))
    (h : wpAny M A (call (.builtin id) (.ref x :: args)) (fun v => Q (some v)) E s) : wpAny M A (callSpecialIfBound? (.ref x) name args) Q E s := by
  simp only [callSpecialIfBound?, bindSpecialIfBound?]
  refine wpAny_holding (wpAny_bind (wpAny_bind (wpAny_bind (I.type.here ((looks_findIn X hs).here ?_)))))
  refine wpAny_bind (wpAny_askSetting (wpAny_ite ?_))
  have fin : wpAny M A (call (.builtin id) ([.ref x] ++ args) >>= fun v => pure (some v)) Q E s := wpAny_bind (wpAny_mono h (fun v s' h' => wpAny_pure h') fun _ _ h' => h')
  have bl : Looks M s.heap (bindSpecial (.builtin id) (.ref x)) (.builtin id, [.ref x]) := Looks.of_pure (hb _)
  split
  · exact wpAny_bind (bl.here (wpAny_pure (by exact fin)))
  · exact wpAny_tryCatch (wpAny_bind (bl.here (wpAny_pure (by exact fin))))
theorem ne_body {Q : Fin → Shared → Prop} (hu : A.units < cLine) (X : K.In s.heap) (I : InstAt s.heap x ox C od) (hs : findIn K (.ref C) "__eq__" = some (some (.ref f))) (hf : isFn K (.ref f) = true)
    (h : wpAny (model prog w) A (call (.ref f) [.ref x, b]) (fun v s' => ∃ t, v = .bool t ∧ Q (.done (.ret (.bool (!t)))) s') E s) :
    wpAny (model prog w) A (Builtin.«object.__ne__» ⟨[.ref x, b], []⟩) Q E s := by
  unfold Builtin.«object.__ne__»
  have key : wpAny (model prog w) A (callSpecialIfBound? (.ref x) "__eq__" [b]) (fun r s' => ∃ t, r = some (.bool t) ∧ Q (.done (.ret (.bool (!t)))) s') E s :=
    ifBound_K X I hs hf (wpAny_mono h (fun v s' hv => by obtain ⟨t, rfl, q⟩ := hv; exact ⟨t, rfl, q⟩) fun _ _ e => e)
  repeat (first
    | with_reducible refine wpAny_cRoomFor hu ?_
    | (refine wpAny_bind (m := callSpecialIfBound? (.ref x) (Str.ofString "__eq__") [b]) (wpAny_mono key (fun r s' hr => by
          obtain ⟨t, rfl, hq⟩ := hr
          repeat (first | exact hq | exact wpAny_pure hq | exact wpAny_truthy_bool hq | (refine wpAny_bind (m := truthy (.bool _)) (wpAny_truthy_bool ?_)) | wp_step)) fun _ _ e => e))
    | wp_step)
theorem ne_K {Q : Value → Shared → Prop} (hu : A.units < cLine) (hu1 : A.in1.units < cLine) (F : Fr h₀ L s.heap m) (X₀ : K.In h₀) (I : InstAt s.heap x ox C od) (hb : Looks (model prog w) s.heap (typeOf b) tb) (hn : notFirst K C tb = true)
    (hne : findIn K (.ref C) "__ne__" = some (some (.builtin "object.__ne__"))) (hm : mroIn K C (.type "object") = some true)
    (hs : findIn K (.ref C) "__eq__" = some (some (.ref f))) (hf : isFn K (.ref f) = true)
    (h : wpAny (model prog w) A.in1 (call (.ref f) [.ref x, b]) (fun v s' => ∃ t, v = .bool t ∧ Q (.bool (!t)) s') E s) : wpAny (model prog w) A (richCompare .NotEq (.ref x) b) Q E s := by
  have X := X₀.keeps F.keep
  have sub : Looks (model prog w) s.heap (isInstance (.ref x) (.type "object")) true := I.type.andThen (looks_mroIn X hm)
  have cl : wpAny (model prog w) A (call (.builtin "object.__ne__") [.ref x, b]) (fun v s' => ∃ t, v = .bool t ∧ Q (.bool t) s') E s := by
    refine wpAny_call (codeAny_call_builtin PySem.F.cmp_object.ne.plain PySem.F.cmpEntry_ne (@PySem.W.check_slot (model prog w) _ _ s "object.__ne__" "object" "__ne__" (.ref x) [b] [] _ PySem.F.cmpKind_ne PySem.F.cmpSplit_ne sub (PySem.F.cmpArgs_ne _ _) ?_))
    refine ne_body (A := A.in1) hu1 X I hs hf (wpAny_mono h (fun v s' hv => ?_) fun _ _ e => e)
    obtain ⟨t, rfl, q⟩ := hv
    exact ⟨t, rfl, _, rfl, q⟩
  have one : wpAny (model prog w) A (tryCompare (.ref x) "__ne__" b) (fun r s' => ∃ v, r = some v ∧ Q v s') E s := by
    unfold tryCompare
    refine wpAny_bind (ifBound_B (T := "object") X I hne PySem.F.cmp_object.ne.bind (wpAny_mono cl (fun v s' hv => ?_) fun _ _ e => e))
    obtain ⟨t, rfl, q⟩ := hv
    exact wpAny_pure ⟨_, rfl, q⟩
  unfold richCompare
  simp only [oneThing_ref]
  refine wpAny_holding (wpAny_bind (wpAny_cRoomFor hu ?_))
  refine wpAny_bind (I.type.here (wpAny_bind (hb.here ?_)))
  split
  · rename_i q
    have e : subIn K tb (.ref C) = some false := by
      rcases Bool.or_eq_true_iff.mp hn with e | e
      · rw [beq_iff_eq.mp e] at q; simp at q
      · exact beq_iff_eq.mp e
    refine wpAny_bind ((looks_subIn X e).here ?_)
    simp only [Bool.false_eq_true, if_false]
    refine wpAny_bind (wpAny_mono one (fun r s' z => ?_) fun _ _ e => e)
    obtain ⟨v, rfl, hq⟩ := z
    exact wpAny_pure hq
  · refine wpAny_bind (wpAny_pure ?_)
    simp only [Bool.false_eq_true, if_false]
    refine wpAny_bind (wpAny_mono one (fun r s' z => ?_) fun _ _ e => e)
    obtain ⟨v, rfl, hq⟩ := z
    exact wpAny_pure hq
end
def allTy (l : List Value) : Bool := l.all fun v => match v with
  | .type _ => true
  | _ => false
theorem allTy_no {C : Addr} : ∀ {l : List Value}, allTy l = true → l.contains (.ref C) = false
  | [], _ => rfl
  | v :: l, h => by
    unfold allTy at h
    simp only [List.all_cons, Bool.and_eq_true] at h
    have ih := allTy_no (C := C) (l := l) h.2
    rw [List.contains_cons, ih, Bool.or_false]
    cases v <;> first | rfl | simp at h
theorem kinds_ty : kinds.all (fun k => (fastBuiltinMro k).any allTy) = true := by decide +kernel
theorem notFirst_kind {K : Frag} {C : Addr} {k : String} (h : k ∈ kinds) : notFirst K C (.type k) = true := by
  have a := List.all_eq_true.mp kinds_ty k h
  unfold notFirst
  rw [Bool.or_eq_true]
  right
  rw [beq_iff_eq]
  show Option.map _ _ = _
  cases e : fastBuiltinMro k with
  | none => rw [e] at a; cases a
  | some l =>
    rw [e] at a
    rw [Option.map_some, allTy_no (by simpa using a)]
section
variable {X : Cx} {Wx : WX} {k j : Nat} {ps : List Str} {F : Fn} {c : Str} {C f : Addr} {fd : FuncData} {sp : Sp} {E : St → XK}
theorem eq_ins {pins : List (Addr × Obj)} {σ : L2.St} {H : Hp} {s : Shared} {Q : VK} {a dx : Addr} {fs : List (Str × V)} {y : V} {u t : Value} (hs : PySem.W.findIn X.K (.ref C) "__eq__" = some (some (.ref f))) (hf : PySem.W.isFn X.K (.ref f) = true) (F : FnG X.prog X.w X.K X.mg X.base (L2.CX X.prog X.w) k f fd ps sp) (hg : X.A.guards = some []) (hr : Room k X.A) (hb : Binds X.K fd ps [])
    (hx : PassesAt (L2.CX X.prog X.w) X σ (E σ)) (I : Inv X pins σ H s) (ha : H a = some (.ins C dx fs)) (ry : RelV y u) (ty : TyX X.K H y t) (hn : notFirst X.K C t = true) (h : sp [.ref a, y] H (fun v H' => (∃ b, v = .bl b) ∧ Q v H') (E σ)) :
    wpAny (model X.prog X.w) X.A (compareOp .Eq (.ref a) u) (EP X pins σ Q) X.xe s := by
  obtain ⟨mA, J, _⟩ := ins_get I.hok ha
  obtain ⟨od, J, _⟩ := J.look
  obtain ⟨m, hF⟩ := I.fr
  obtain ⟨P, Z, p, _⟩ := kit_of I ry ty
  show wpAny _ _ (richCompare .Eq (.ref a) u) _ _ _
  refine PySem.W.cmp_K (op := .Eq) (tb := t) hr.units0 hF I.ok.mod.kin J (Z.ty _ _ I.kIn p) hn hs hf ?_
  refine wpAny_mono (run_fnA (A := X.A) (us := [.ref a, u]) (vs := [.ref a, y]) F hg rfl hr hb hx I (.cons rfl (.cons ry .nil)) h) (fun r s' z => ?_) fun _ _ x => x
  obtain ⟨v, H', I', rv, ⟨b, rfl⟩, q⟩ := z
  obtain rfl : r = Value.bool b := rv
  exact ⟨.bl b, H', I', rfl, q⟩
theorem ne_ins {pins : List (Addr × Obj)} {σ : L2.St} {H : Hp} {s : Shared} {Q : VK} {a dx : Addr} {fs : List (Str × V)} {y : V} {u t : Value} (hne : PySem.W.findIn X.K (.ref C) "__ne__" = some (some (.builtin "object.__ne__"))) (hm : PySem.W.mroIn X.K C (.type "object") = some true) (hs : PySem.W.findIn X.K (.ref C) "__eq__" = some (some (.ref f))) (hf : PySem.W.isFn X.K (.ref f) = true) (F : FnG X.prog X.w X.K X.mg X.base (L2.CX X.prog X.w) k f fd ps sp) (hg : X.A.guards = some []) (hr : Room (k + 1) X.A) (hb : Binds X.K fd ps [])
    (hx : PassesAt (L2.CX X.prog X.w) X σ (E σ)) (I : Inv X pins σ H s) (ha : H a = some (.ins C dx fs)) (ry : RelV y u) (ty : TyX X.K H y t) (hn : notFirst X.K C t = true) (h : sp [.ref a, y] H (fun v H' => ∃ b, v = .bl b ∧ Q (.bl (!b)) H') (E σ)) :
    wpAny (model X.prog X.w) X.A (compareOp .NotEq (.ref a) u) (EP X pins σ Q) X.xe s := by
  obtain ⟨mA, J, _⟩ := ins_get I.hok ha
  obtain ⟨od, J, _⟩ := J.look
  obtain ⟨m, hF⟩ := I.fr
  obtain ⟨P, Z, p, _⟩ := kit_of I ry ty
  show wpAny _ _ (richCompare .NotEq (.ref a) u) _ _ _
  refine ne_K (tb := t) hr.units0 hr.in1.units0 hF I.ok.mod.kin J (Z.ty _ _ I.kIn p) hn hne hm hs hf ?_
  refine wpAny_mono (run_fnA (A := X.A.in1) (us := [.ref a, u]) (vs := [.ref a, y]) F hg rfl hr.in1 hb hx I (.cons rfl (.cons ry .nil)) h) (fun r s' z => ?_) fun _ _ x => x
  obtain ⟨v, H', I', rv, b, rfl, q⟩ := z
  obtain rfl : r = Value.bool b := rv
  exact ⟨b, rfl, .bl (!b), H', I', rfl, q⟩
end
def NeC (K : PySem.W.Frag) (mg : Str → Option Value) (c : Str) : Prop := ∃ C, mg c = some (.ref C) ∧ PySem.W.findIn K (.ref C) "__ne__" = some (some (.builtin "object.__ne__"))
def besO (c : Str) (u : Va) (L : LH) : Bool := match u.kind L with
  | some _ => true
  | none => match u with
    | .loc n => match L[n]? with
      | some (some (.ins c' _)) => decide (c' = c)
      | _ => false
    | _ => false
def blN (neg : Bool) (r : Res Va) : Res Va := r.bind fun u L => match u with
  | .d (.bool b) => .ok (.d (.bool (xor neg b))) L
  | _ => .stuck
def eEqO (neg : Bool) (c : Str) (F : Fn) (fa fb : EF) : EF := fun env L => (fa env L).bind fun w L1 => (fb env L1).bind fun u L2 => if besO c u L2 then blN neg (insF c F w [u] L2) else .stuck
@[simp] theorem u_eEqO (neg : Bool) (c : Str) (F : Fn) (fa fb : EF) (env : En) (L : LH) : eEqO neg c F fa fb env L = ((fa env L).bind fun w L1 => (fb env L1).bind fun u L2 => if besO c u L2 then blN neg (insF c F w [u] L2) else .stuck) := (rfl)
theorem besO_ty {X : Cx} {c : Str} {C : Addr} {H : Hp} {al T : List Addr} {L : LH} {v : V} {u : Va} (hC : X.mg c = some (.ref C)) (o : IsO X.K C) (r : Rel X.K X.mg H al T L) (q : Rp X.K X.mg (mask H (al ++ T)) al v u) (h : besO c u L = true) : ∃ t, TyX X.K H v t ∧ notFirst X.K C t = true := by
  unfold besO at h
  split at h
  · rename_i kk ek
    exact ⟨.type kk, kind_ok r q ek, notFirst_kind (kind_mem ek)⟩
  · split at h
    · rename_i n
      split at h
      · rename_i c' gs e1
        have hc := of_decide_eq_true h
        subst hc
        obtain ⟨a, C', dx, ks, rfl, ea, hc', hH, fr⟩ := loc_ins r q e1
        rw [hC] at hc'
        cases hc'
        exact ⟨.ref C, .base (.ins hH o.cl o.cc o.sp o.tk o.mo), by simp [notFirst]⟩
      · cases h
    · cases h
section
variable {X : Cx} {Wx : WX} {op : CmpOp} {a b : Expr} {pos : Pos} {g : EF}
def CmpCore (X : Cx) (Wx : WX) (op : CmpOp) (a b : Expr) (g : EF) : Prop := ∀ (pins : List (Addr × Obj)) (s : Shared) (σ : L2.St) (H : Hp) (Q : VK), Inv X pins σ H s → Rdg X Wx (RV X) g σ H Q →
  wpAny (model X.prog X.w) X.A (eval a X.env) (fun v s1 => wpAny (model X.prog X.w) X.A (eval b X.env) (fun u s2 => wpAny (model X.prog X.w) X.A (compareOp op v u) (EP X pins σ Q) X.xe s2) X.xe s1) X.xe s
theorem se_core (h : CmpCore X Wx op a b g) (hm : behindInMarks op b = false) : SE X Wx (.Compare a [op] [b] pos) g := ⟨fun pins s σ H Q I q => wpAny_Compare1 (h pins s σ H Q I q) hm⟩
end
section
variable {X : Cx} {Wx : WX} {k j : Nat} {ps : List Str} {F : Fn} {c : Str} {p pos : Pos} {a b : Expr} {fa fb : EF}
theorem c_eqO (cx : Ctx X Wx k) (hC : IsC X.K X.mg c) (h : HasS X.prog X.w X.K X.mg X.base c "__eq__" ps j F) (ha : SE X Wx a fa) (hb : SE X Wx b fb) (hj : j ≤ k) :
    CmpCore X Wx .Eq a b (eEqO false c F fa fb) := by
  obtain ⟨C, f, fd, h1, h2, h3, h4, h5, h6, h7⟩ := h
  obtain ⟨C9, hC1, o, _⟩ := hC
  rw [h1] at hC1
  cases hC1
  intro pins s σ H Q I q
  obtain ⟨env, L, al, T, cf, q⟩ := q
  have key : Rdg X Wx (RV X) fa σ H (fun x H1 => Rdg X Wx (RV X) fb σ H1 fun y H2 => ∃ a dx gs t, x = V.ref a ∧ H2 a = some (.ins C dx gs) ∧ TyX X.K H2 y t ∧ notFirst X.K C t = true ∧ spOf X.K X.mg ps.length F (.ref a :: [y]) H2 (fun v H' => (∃ b, v = .bl b) ∧ Q v H') (WE Wx σ)) := by
    refine rseq (R := RV X) cf q fun x H1 w L1 al1 c1 s1 r1 q1 => ?_
    refine rseq (R := RV X) c1 q1 fun y H2 u L2 al2 c2 s2 r2 q2 => ?_
    split at q2
    · rename_i hbes
      obtain ⟨t, ty, hn⟩ := besO_ty h1 o c2.rel r2 hbes
      have core : ∃ a dx gs, x = V.ref a ∧ H2 a = some (.ins C dx gs) ∧ spOf X.K X.mg ps.length F (.ref a :: [y]) H2 (fun v H' => (∃ b, v = .bl b) ∧ Q v H') (WE Wx σ) := by
        refine insF_core (w := w) (us := [u]) h6 h1 c2.rel (s2.rp r1) (.cons r2 .nil) ?_
        revert q2
        unfold blN
        generalize insF c F w [u] L2 = rr
        intro q2
        cases rr with
        | stuck => exact q2
        | exc _ _ _ => exact q2
        | ok z L3 =>
          intro v H' al' st rv
          simp only [Res.bind_ok] at q2
          split at q2
          · rename_i bb
            rw [Bool.false_xor] at q2
            exact ⟨⟨bb, dq_bl (rp_d rv)⟩, q2 v H' al' st rv⟩
          · exact q2.elim
      obtain ⟨a, dx, gs, e1, e2, e3⟩ := core
      exact ⟨a, dx, gs, t, e1, e2, ty, hn, e3⟩
    · exact q2.elim
  refine binT ha hb I key fun v u s2 x y H2 I2 rx ry ⟨a, dx, gs, t, ev, ea, ty, hn, sp⟩ => ?_
  subst ev
  obtain rfl : v = Value.ref a := rx
  exact eq_ins (E := WE Wx) h2 h3 h7 cx.gd (cx.rm.mono hj) h5 (passAt cx.tk σ) I2 ea ry ty hn sp
theorem c_neO (cx : Ctx X Wx k) (hC : IsC X.K X.mg c) (hN : NeC X.K X.mg c) (h : HasS X.prog X.w X.K X.mg X.base c "__eq__" ps j F) (ha : SE X Wx a fa) (hb : SE X Wx b fb) (hj : j + 1 ≤ k) :
    CmpCore X Wx .NotEq a b (eEqO true c F fa fb) := by
  obtain ⟨C, f, fd, h1, h2, h3, h4, h5, h6, h7⟩ := h
  obtain ⟨C9, hC1, o, _⟩ := hC
  rw [h1] at hC1
  cases hC1
  obtain ⟨C9, hC1, hne⟩ := hN
  rw [h1] at hC1
  cases hC1
  intro pins s σ H Q I q
  obtain ⟨env, L, al, T, cf, q⟩ := q
  have key : Rdg X Wx (RV X) fa σ H (fun x H1 => Rdg X Wx (RV X) fb σ H1 fun y H2 => ∃ a dx gs t, x = V.ref a ∧ H2 a = some (.ins C dx gs) ∧ TyX X.K H2 y t ∧ notFirst X.K C t = true ∧ spOf X.K X.mg ps.length F (.ref a :: [y]) H2 (fun v H' => ∃ b, v = .bl b ∧ Q (.bl (!b)) H') (WE Wx σ)) := by
    refine rseq (R := RV X) cf q fun x H1 w L1 al1 c1 s1 r1 q1 => ?_
    refine rseq (R := RV X) c1 q1 fun y H2 u L2 al2 c2 s2 r2 q2 => ?_
    split at q2
    · rename_i hbes
      obtain ⟨t, ty, hn⟩ := besO_ty h1 o c2.rel r2 hbes
      have core : ∃ a dx gs, x = V.ref a ∧ H2 a = some (.ins C dx gs) ∧ spOf X.K X.mg ps.length F (.ref a :: [y]) H2 (fun v H' => ∃ b, v = .bl b ∧ Q (.bl (!b)) H') (WE Wx σ) := by
        refine insF_core (w := w) (us := [u]) h6 h1 c2.rel (s2.rp r1) (.cons r2 .nil) ?_
        revert q2
        unfold blN
        generalize insF c F w [u] L2 = rr
        intro q2
        cases rr with
        | stuck => exact q2
        | exc _ _ _ => exact q2
        | ok z L3 =>
          intro v H' al' st rv
          simp only [Res.bind_ok] at q2
          split at q2
          · rename_i bb
            rw [Bool.true_xor] at q2
            exact ⟨bb, dq_bl (rp_d rv), q2 _ H' al' st (.d (.bl _))⟩
          · exact q2.elim
      obtain ⟨a, dx, gs, e1, e2, e3⟩ := core
      exact ⟨a, dx, gs, t, e1, e2, ty, hn, e3⟩
    · exact q2.elim
  refine binT ha hb I key fun v u s2 x y H2 I2 rx ry ⟨a, dx, gs, t, ev, ea, ty, hn, sp⟩ => ?_
  subst ev
  obtain rfl : v = Value.ref a := rx
  exact ne_ins (E := WE Wx) hne o.mo h2 h3 h7 cx.gd (cx.rm.mono hj) h5 (passAt cx.tk σ) I2 ea ry ty hn sp
theorem w_eqO (cx : Ctx X Wx k) (hC : IsC X.K X.mg c) (h : HasS X.prog X.w X.K X.mg X.base c "__eq__" ps j F) (ha : SE X Wx a fa) (hb : SE X Wx b fb) (hj : j ≤ k := by decide) (hm : behindInMarks .Eq b = false := by rfl) :
    SE X Wx (.Compare a [.Eq] [b] pos) (eEqO false c F fa fb) := se_core (c_eqO cx hC h ha hb hj) hm
theorem w_neO (cx : Ctx X Wx k) (hC : IsC X.K X.mg c) (hN : NeC X.K X.mg c) (h : HasS X.prog X.w X.K X.mg X.base c "__eq__" ps j F) (ha : SE X Wx a fa) (hb : SE X Wx b fb) (hj : j + 1 ≤ k := by decide) (hm : behindInMarks .NotEq b = false := by rfl) :
    SE X Wx (.Compare a [.NotEq] [b] pos) (eEqO true c F fa fb) := se_core (c_neO cx hC hN h ha hb hj) hm
end
theorem neC_of {K : PySem.W.Frag} {mg : Str → Option Value} {h : Heap} {c : Str} (X : K.In h) (G : h.Ns mainGlobals mg) (g : (He.Fa.glo c).ok K = true) (e : neB K c = true) : NeC K mg c := ⟨_, He.glo_ok X G g, of_decide_eq_true e⟩
end L2.HW
namespace L2.HW
open PySem PySem.Spec PyProof.Rows
@[simp] theorem u_eVar (i : Nat) env L : eVar i env L = (match env[i]? with
  | some (some w) => .ok w L
  | _ => .stuck) := by first | exact (rfl) | (unfold eVar; exact (rfl))
@[simp] theorem u_eC (x : PyData) x0 L : eC x x0 L = (.ok (.d x) L) := by first | exact (rfl) | (unfold eC; exact (rfl))
@[simp] theorem u_eOp (g : Op2) (a b : EF) env L : eOp g a b env L = ((a env L).bind fun w L1 => (b env L1).bind fun u L2 => g w u L2) := by first | exact (rfl) | (unfold eOp; exact (rfl))
@[simp] theorem u_tVal (f : EF) env L : tVal f env L = ((f env L).bind fun w L1 => match w with
  | .d (.bool b) => .ok b L1
  | _ => .stuck) := by first | exact (rfl) | (unfold tVal; exact (rfl))
@[simp] theorem u_tAndF (f g : En → LH → Res Bool) env L : tAndF f g env L = ((f env L).bind fun b L1 => if b then g env L1 else .ok false L1) := by first | exact (rfl) | (unfold tAndF; exact (rfl))
@[simp] theorem u_tOrF (f g : En → LH → Res Bool) env L : tOrF f g env L = ((f env L).bind fun b L1 => if b then .ok true L1 else g env L1) := by first | exact (rfl) | (unfold tOrF; exact (rfl))
@[simp] theorem u_tNotF (f : En → LH → Res Bool) env L : tNotF f env L = ((f env L).bind fun b L1 => .ok (!b) L1) := by first | exact (rfl) | (unfold tNotF; exact (rfl))
@[simp] theorem u_eIf (t : En → LH → Res Bool) (f g : EF) env L : eIf t f g env L = ((t env L).bind fun b L1 => if b then f env L1 else g env L1) := by first | exact (rfl) | (unfold eIf; exact (rfl))
@[simp] theorem u_eAnd (f g : EF) env L : eAnd f g env L = ((tVal f env L).bind fun b L1 => if b then g env L1 else .ok (.d (.bool false)) L1) := by first | exact (rfl) | (unfold eAnd; exact (rfl))
@[simp] theorem u_eOr (f g : EF) env L : eOr f g env L = ((tVal f env L).bind fun b L1 => if b then .ok (.d (.bool true)) L1 else g env L1) := by first | exact (rfl) | (unfold eOr; exact (rfl))
@[simp] theorem u_eNot (f : EF) env L : eNot f env L = ((tVal f env L).bind fun b L1 => .ok (.d (.bool (!b))) L1) := by first | exact (rfl) | (unfold eNot; exact (rfl))
@[simp] theorem u_aNil x0 L : aNil x0 L = (.ok [] L) := by first | exact (rfl) | (unfold aNil; exact (rfl))
@[simp] theorem u_aCons (f : EF) (g : En → LH → Res (List Va)) env L : aCons f g env L = ((f env L).bind fun w L1 => (g env L1).bind fun ws L2 => .ok (w :: ws) L2) := by first | exact (rfl) | (unfold aCons; exact (rfl))
@[simp] theorem u_eDat (g : En → LH → Res Ob) env L : eDat g env L = ((g env L).bind fun o L1 => match o.va with
  | some w => .ok w L1
  | none => .stuck) := by first | exact (rfl) | (unfold eDat; exact (rfl))
@[simp] theorem u_eNew (g : En → LH → Res Ob) env L : eNew g env L = ((g env L).bind fun o L1 => .ok (.loc L1.length) (L1 ++ [some o])) := by first | exact (rfl) | (unfold eNew; exact (rfl))
@[simp] theorem u_opAdd w u L : opAdd w u L = (match w, u with
  | .d (.int i), .d (.int j) => .ok (.d (.int (i + j))) L
  | .d (.str a), .d (.str b) => if a.length + b.length ≤ sizeLine then .ok (.d (.str (a ++ b))) L else .stuck
  | .d (.tuple xs), .d (.tuple ys) => if xs.length + ys.length ≤ sizeLine then .ok (.d (.tuple (xs ++ ys))) L else .stuck
  | w, u => match w.items L, u.items L with
    | some ws, some us => if ws.length + us.length ≤ sizeLine then match datas ws, datas us with
      | some xs, some ys => .ok (.d (.list (xs ++ ys))) L
      | _, _ => .stuck
      else .stuck
    | _, _ => .stuck) := by first | exact (rfl) | (unfold opAdd; exact (rfl))
@[simp] theorem u_opI (g : Int → Int → Int) w u L : opI g w u L = (match w, u with
  | .d (.int i), .d (.int j) => .ok (.d (.int (g i j))) L
  | _, _ => .stuck) := by first | exact (rfl) | (unfold opI; exact (rfl))
@[simp] theorem u_opIC (C : Int → Int → Bool) (g : Int → Int → Int) w u L : opIC C g w u L = (match w, u with
  | .d (.int i), .d (.int j) => if C i j then .ok (.d (.int (g i j))) L else .stuck
  | _, _ => .stuck) := by first | exact (rfl) | (unfold opIC; exact (rfl))
@[simp] theorem u_opMul w u L : opMul w u L = (match w, u with
  | .d (.int i), .d (.int j) => if mulC i j then .ok (.d (.int (i * j))) L else .stuck
  | .d (.tuple xs), .d (.int k) => if xs ≠ [] ∧ 2 ≤ k ∧ k ≤ 1000 ∧ xs.length ≤ 1000 then .ok (.d (.tuple (rep k.toNat xs))) L else .stuck
  | w, .d (.int k) => match w.items L with
    | some ws => if -(2 ^ 63) ≤ k ∧ k < 2 ^ 63 ∧ ws.length * k.toNat ≤ sizeLine then match datas ws with
      | some xs => .ok (.d (.list (rep k.toNat xs))) L
      | none => .stuck
      else .stuck
    | none => .stuck
  | _, _ => .stuck) := by first | exact (rfl) | (unfold opMul; exact (rfl))
@[simp] theorem u_opC (g : Int → Int → Bool) w u L : opC g w u L = (match w, u with
  | .d (.int i), .d (.int j) => .ok (.d (.bool (g i j))) L
  | _, _ => .stuck) := by first | exact (rfl) | (unfold opC; exact (rfl))
@[simp] theorem u_opLt w u L : opLt w u L = (match w, u with
  | .d (.int i), .d (.int j) => .ok (.d (.bool (decide (i < j)))) L
  | .d (.tuple xs), .d (.tuple ys) => match intsOf xs, intsOf ys with
    | some ns, some ms => .ok (.d (.bool (HT.lexLt ns ms))) L
    | _, _ => .stuck
  | _, _ => .stuck) := by first | exact (rfl) | (unfold opLt; exact (rfl))
@[simp] theorem u_opEq w u L : opEq w u L = (match w.data L, u.data L with
  | some x, some y => if cmpOk x y then .ok (.d (.bool (PyData.eqv x y))) L else .stuck
  | _, _ => .stuck) := by first | exact (rfl) | (unfold opEq; exact (rfl))
@[simp] theorem u_opNe w u L : opNe w u L = (match w.data L, u.data L with
  | some x, some y => if cmpOk x y then .ok (.d (.bool (!PyData.eqv x y))) L else .stuck
  | _, _ => .stuck) := by first | exact (rfl) | (unfold opNe; exact (rfl))
@[simp] theorem u_opIsN w u L : opIsN w u L = (match u with
  | .d .none => .ok (.d (.bool w.isN)) L
  | _ => .stuck) := by first | exact (rfl) | (unfold opIsN; exact (rfl))
@[simp] theorem u_opNotN w u L : opNotN w u L = (match u with
  | .d .none => .ok (.d (.bool (!w.isN))) L
  | _ => .stuck) := by first | exact (rfl) | (unfold opNotN; exact (rfl))
@[simp] theorem u_opIsB w u L : opIsB w u L = (match w, u with
  | .d (.bool a), .d (.bool b) => .ok (.d (.bool (decide (a = b)))) L
  | _, _ => .stuck) := by first | exact (rfl) | (unfold opIsB; exact (rfl))
@[simp] theorem u_opNotB w u L : opNotB w u L = (match w, u with
  | .d (.bool a), .d (.bool b) => .ok (.d (.bool (!decide (a = b)))) L
  | _, _ => .stuck) := by first | exact (rfl) | (unfold opNotB; exact (rfl))
@[simp] theorem u_eTup (fs : En → LH → Res (List Va)) env L : eTup fs env L = ((fs env L).bind fun ws L1 => if ws.length ≤ sizeLine then .ok (mkTup ws) L1 else .stuck) := by first | exact (rfl) | (unfold eTup; exact (rfl))
@[simp] theorem u_fLst (fs : En → LH → Res (List Va)) env L : fLst fs env L = ((fs env L).bind fun ws L1 => if ws.length ≤ sizeLine then .ok (.lst ws) L1 else .stuck) := by first | exact (rfl) | (unfold fLst; exact (rfl))
@[simp] theorem u_aStar (f : EF) (g : En → LH → Res (List Va)) env L : aStar f g env L = ((f env L).bind fun w L1 => match w.seq L1 with
  | some us => (g env L1).bind fun ws L2 => .ok (us ++ ws) L2
  | none => .stuck) := by first | exact (rfl) | (unfold aStar; exact (rfl))
@[simp] theorem u_opIx w u L : opIx w u L = (match w.dget L u with
  | some (some x) => .ok x L
  | some none => .stuck
  | none => match u with
    | .d (.int i) => match w.seq L with
      | some ws => match atI ws i with
        | some x => .ok x L
        | none => .stuck
      | none => match w with
        | .d (.str z) => if z.length ≤ sizeLine then match atI z.cps.toList i with
          | some c => .ok (.d (.str ⟨#[c]⟩)) L
          | none => .stuck
          else .stuck
        | _ => .stuck
    | _ => .stuck) := by first | exact (rfl) | (unfold opIx; exact (rfl))
@[simp] theorem u_opSl (w : Va) (lo hi : Option Int) (L : LH) : opSl w lo hi L = match w with
  | .d (.tuple xs) => .ok (.d (.tuple (cutA xs lo hi))) L
  | .d (.str z) => if z.length ≤ sizeLine then .ok (.d (.str (cutS z lo hi))) L else .stuck
  | w => match w.items L with
    | some ws => match datas (cutA ws lo hi) with
      | some xs => .ok (.d (.list xs)) L
      | none => .stuck
    | none => .stuck := by unfold opSl; exact (rfl)
@[simp] theorem u_eSl (f : EF) (p q : En → LH → Res (Option Int)) env L : eSl f p q env L = ((f env L).bind fun w L1 => (p env L1).bind fun lo L2 => (q env L2).bind fun hi L3 => opSl w lo hi L3) := by first | exact (rfl) | (unfold eSl; exact (rfl))
@[simp] theorem u_fSl (f : EF) (p q : En → LH → Res (Option Int)) env L : fSl f p q env L = ((f env L).bind fun w L1 => (p env L1).bind fun lo L2 => (q env L2).bind fun hi L3 => match w.items L3 with
  | some ws => .ok (.lst (cutA ws lo hi)) L3
  | none => .stuck) := by first | exact (rfl) | (unfold fSl; exact (rfl))
@[simp] theorem u_fCat (f g : EF) env L : fCat f g env L = ((f env L).bind fun w L1 => (g env L1).bind fun u L2 => match w.items L2, u.items L2 with
  | some ws, some us => if ws.length + us.length ≤ sizeLine then .ok (.lst (ws ++ us)) L2 else .stuck
  | _, _ => .stuck) := by first | exact (rfl) | (unfold fCat; exact (rfl))
@[simp] theorem u_fRep (f g : EF) env L : fRep f g env L = ((f env L).bind fun w L1 => (g env L1).bind fun u L2 => match w.items L2, u with
  | some ws, .d (.int k) => if -(2 ^ 63) ≤ k ∧ k < 2 ^ 63 ∧ ws.length * k.toNat ≤ sizeLine then .ok (.lst (rep k.toNat ws)) L2 else .stuck
  | _, _ => .stuck) := by first | exact (rfl) | (unfold fRep; exact (rfl))
@[simp] theorem u_opIn (neg : Bool) w u L : opIn neg w u L = (match u.dget L w with
  | some o => .ok (.d (.bool (if neg then !o.isSome else o.isSome))) L
  | none => match u, w with
    | .d (.str z), .d (.str s) => match s.cps.toList with
      | [c] => .ok (.d (.bool (if neg then !decide (c ∈ z.cps.toList) else decide (c ∈ z.cps.toList)))) L
      | _ => .stuck
    | .d (.tuple ds), .d x => if flatD x && ds.all flatD then .ok (.d (.bool (if neg then !(ds.any fun z => PyData.eqv z x) else ds.any fun z => PyData.eqv z x))) L else .stuck
    | u, w => match u.data L, w.data L with
      | some (.list ds), some x => if SeqAt.shaped x && SeqAt.shaped (.list ds) then .ok (.d (.bool (if neg then !(ds.any fun z => PyData.eqv z x) else ds.any fun z => PyData.eqv z x))) L else .stuck
      | _, _ => .stuck) := by first | exact (rfl) | (unfold opIn; exact (rfl))
@[simp] theorem u_pNone x0 L : pNone x0 L = (.ok none L) := by first | exact (rfl) | (unfold pNone; exact (rfl))
@[simp] theorem u_pSome (f : EF) env L : pSome f env L = ((f env L).bind fun w L1 => match w with
  | .d (.int i) => .ok (some i) L1
  | _ => .stuck) := by first | exact (rfl) | (unfold pSome; exact (rfl))
@[simp] theorem u_eCallB (g : List Va → LH → Res Va) (fs : En → LH → Res (List Va)) env L : eCallB g fs env L = ((fs env L).bind g) := by first | exact (rfl) | (unfold eCallB; exact (rfl))
@[simp] theorem u_fCallB (g : List Va → LH → Res Ob) (fs : En → LH → Res (List Va)) env L : fCallB g fs env L = ((fs env L).bind g) := by first | exact (rfl) | (unfold fCallB; exact (rfl))
@[simp] theorem u_cLen ws L : cLen ws L = (match ws with
  | [w] => match w with
    | .d (.str z) => if z.length ≤ sizeLine then .ok (.d (.int z.length)) L else .stuck
    | .dct ks => .ok (.d (.int ks.length)) L
    | w => match w.seq L with
      | some us => .ok (.d (.int us.length)) L
      | none => match w with
        | .loc n => match L[n]? with
          | some (some (.di ks)) => .ok (.d (.int ks.length)) L
          | _ => .stuck
        | _ => .stuck
  | _ => .stuck) := by first | exact (rfl) | (unfold cLen; exact (rfl))
@[simp] theorem u_eIsi (T : String) (f : EF) env L : eIsi T f env L = ((f env L).bind fun w L1 => match w.kind L1 with
  | some k => .ok (.d (.bool (isKind k T))) L1
  | none => .stuck) := by first | exact (rfl) | (unfold eIsi; exact (rfl))
@[simp] theorem u_cMin2 ws L : cMin2 ws L = (match ws with
  | [.d (.int i), .d (.int j)] => .ok (.d (.int (if j < i then j else i))) L
  | _ => .stuck) := by first | exact (rfl) | (unfold cMin2; exact (rfl))
@[simp] theorem u_cMax2 ws L : cMax2 ws L = (match ws with
  | [.d (.int i), .d (.int j)] => .ok (.d (.int (if j > i then j else i))) L
  | _ => .stuck) := by first | exact (rfl) | (unfold cMax2; exact (rfl))
@[simp] theorem u_cInt ws L : cInt ws L = (match ws with
  | [.d (.int i)] => .ok (.d (.int i)) L
  | [.d (.bool b)] => .ok (.d (.int (if b then 1 else 0))) L
  | _ => .stuck) := by first | exact (rfl) | (unfold cInt; exact (rfl))
@[simp] theorem u_cStr ws L : cStr ws L = (match ws with
  | [.d (.int i)] => if i.natAbs.log2 < 1920 then .ok (.d (.str (toString i))) L else .stuck
  | _ => .stuck) := by first | exact (rfl) | (unfold cStr; exact (rfl))
@[simp] theorem u_cList ws L : cList ws L = (match ws with
  | [w] => match w.seq L with
    | some us => .ok (.lst us) L
    | none => .stuck
  | _ => .stuck) := by first | exact (rfl) | (unfold cList; exact (rfl))
@[simp] theorem u_cTuple ws L : cTuple ws L = (match ws with
  | [.d (.tuple xs)] => .ok (.d (.tuple xs)) L
  | [w] => match w.items L with
    | some us => .ok (mkTup us) L
    | none => .stuck
  | _ => .stuck) := by first | exact (rfl) | (unfold cTuple; exact (rfl))
@[simp] theorem u_sNil env L : sNil env L = (.nx env L) := by first | exact (rfl) | (unfold sNil; exact (rfl))
@[simp] theorem u_sSeq (f g : SFn) env L : sSeq f g env L = (match f env L with
  | .nx env1 L1 => g env1 L1
  | o => o) := by first | exact (rfl) | (unfold sSeq; exact (rfl))
@[simp] theorem u_sPass : sPass  = sNil := by unfold sPass; exact (rfl)
@[simp] theorem u_sBreak env L : sBreak env L = (.bk env L) := by first | exact (rfl) | (unfold sBreak; exact (rfl))
@[simp] theorem u_sCont env L : sCont env L = (.ct env L) := by first | exact (rfl) | (unfold sCont; exact (rfl))
@[simp] theorem u_sExpr (f : EF) env L : sExpr f env L = ((f env L).then env fun _ L1 => .nx env L1) := by first | exact (rfl) | (unfold sExpr; exact (rfl))
@[simp] theorem u_sRet (f : EF) env L : sRet f env L = ((f env L).then env fun w L1 => .rt w L1) := by first | exact (rfl) | (unfold sRet; exact (rfl))
@[simp] theorem u_sRetN x0 L : sRetN x0 L = (.rt (.d .none) L) := by first | exact (rfl) | (unfold sRetN; exact (rfl))
@[simp] theorem u_sRetF (g : En → LH → Res Ob) env L : sRetF g env L = ((g env L).then env fun o L1 => .rf o L1) := by first | exact (rfl) | (unfold sRetF; exact (rfl))
@[simp] theorem u_sIf (t : En → LH → Res Bool) (f g : SFn) env L : sIf t f g env L = ((t env L).then env fun b L1 => if b then f env L1 else g env L1) := by first | exact (rfl) | (unfold sIf; exact (rfl))
@[simp] theorem u_sSet (i : Nat) (f : EF) env L : sSet i f env L = ((f env L).then env fun w L1 => .nx (env.set i (some w)) L1) := by first | exact (rfl) | (unfold sSet; exact (rfl))
@[simp] theorem u_sAug (i : Nat) (g : Int → Int → Int) (f : EF) env L : sAug i g f env L = (match env[i]? with
  | some (some (.d (.int a))) => (f env L).then env fun w L1 => match w with
    | .d (.int b) => .nx (env.set i (some (.d (.int (g a b))))) L1
    | _ => .stuck
  | _ => .stuck) := by first | exact (rfl) | (unfold sAug; exact (rfl))
@[simp] theorem u_tN (i : Nat) w env L : tN i w env L = (.ok (env.set i (some w)) L) := by first | exact (rfl) | (unfold tN; exact (rfl))
@[simp] theorem u_tgNil ws env L : tgNil ws env L = (match ws with
  | [] => .ok env L
  | _ => .stuck) := by first | exact (rfl) | (unfold tgNil; exact (rfl))
@[simp] theorem u_tgCons (f : Va → En → LH → Res En) (g : List Va → En → LH → Res En) ws env L : tgCons f g ws env L = (match ws with
  | w :: r => (f w env L).bind fun env1 L1 => g r env1 L1
  | [] => .stuck) := by first | exact (rfl) | (unfold tgCons; exact (rfl))
@[simp] theorem u_tTupT (n : Nat) (g : List Va → En → LH → Res En) w env L : tTupT n g w env L = (match w.seq L with
  | some ws => if ws.length = n then g ws env L else .stuck
  | none => .stuck) := by first | exact (rfl) | (unfold tTupT; exact (rfl))
@[simp] theorem u_sAsg (f : EF) (g : Va → En → LH → Res En) env L : sAsg f g env L = ((f env L).then env fun w L1 => match g w env L1 with
  | .ok env1 L2 => .nx env1 L2
  | _ => .stuck) := by first | exact (rfl) | (unfold sAsg; exact (rfl))
@[simp] theorem u_sPar (i j : Nat) (fs : En → LH → Res (List Va)) env L : sPar i j fs env L = ((fs env L).then env fun ws L1 => match ws with
  | [w, u] => .nx ((env.set i (some w)).set j (some u)) L1
  | _ => .stuck) := by first | exact (rfl) | (unfold sPar; exact (rfl))
@[simp] theorem u_sPar3 (i j k : Nat) (fs : En → LH → Res (List Va)) env L : sPar3 i j k fs env L = ((fs env L).then env fun ws L1 => match ws with
  | [w, u, z] => .nx (((env.set i (some w)).set j (some u)).set k (some z)) L1
  | _ => .stuck) := by first | exact (rfl) | (unfold sPar3; exact (rfl))
@[simp] theorem u_tIx (f g : EF) v env L : tIx f g v env L = ((f env L).bind fun w L1 => (g env L1).bind fun u L2 => match w with
  | .loc n => match L2[n]?, u with
    | some (some (.lst ws)), .d (.int i) => match ixN ws.length i with
      | some j => .ok env (L2.set n (some (.lst (ws.set j v))))
      | none => .stuck
    | some (some (.di ks)), .d (.int i) => if ks.length < sizeLine then .ok env (L2.set n (some (.di (aput ks i v)))) else .stuck
    | some (some (.di [])), .d (.tuple xs) => match intsOf xs with
      | some ns => .ok env (L2.set n (some (.dt [(ns, v)])))
      | none => .stuck
    | some (some (.dt ks)), .d (.tuple xs) => match intsOf xs with
      | some ns => if ks.length < sizeLine then .ok env (L2.set n (some (.dt (aput ks ns v)))) else .stuck
      | none => .stuck
    | _, _ => .stuck
  | _ => .stuck) := by first | exact (rfl) | (unfold tIx; exact (rfl))
@[simp] theorem u_srcV (f : EF) env L : srcV f env L = ((f env L).bind fun w L1 => match srcOf w L1 with
  | some p => .ok p L1
  | none => .stuck) := by first | exact (rfl) | (unfold srcV; exact (rfl))
@[simp] theorem u_srcR1 (fs : En → LH → Res (List Va)) env L : srcR1 fs env L = ((fs env L).bind fun ws L1 => match ws with
  | [.d (.int j)] => if -(2 ^ 62) ≤ j ∧ j < 2 ^ 62 then .ok (rngV 0 j.toNat, none) L1 else .stuck
  | _ => .stuck) := by first | exact (rfl) | (unfold srcR1; exact (rfl))
@[simp] theorem u_srcR2 (fs : En → LH → Res (List Va)) env L : srcR2 fs env L = ((fs env L).bind fun ws L1 => match ws with
  | [.d (.int i), .d (.int j)] => if -(2 ^ 62) ≤ i ∧ i < 2 ^ 62 ∧ -(2 ^ 62) ≤ j ∧ j < 2 ^ 62 then .ok (rngV i (j - i).toNat, none) L1 else .stuck
  | _ => .stuck) := by first | exact (rfl) | (unfold srcR2; exact (rfl))
@[simp] theorem u_eCall (F : Fn) (fs : En → LH → Res (List Va)) env L : eCall F fs env L = ((fs env L).bind F) := by first | exact (rfl) | (unfold eCall; exact (rfl))
@[simp] theorem u_fCall (F : FnF) (fs : En → LH → Res (List Va)) env L : fCall F fs env L = ((fs env L).bind F) := by first | exact (rfl) | (unfold fCall; exact (rfl))
@[simp] theorem u_eMeth (chk : LH → Va → Bool) (g : Va → List Va → LH → Res Va) (fo : EF) (fs : En → LH → Res (List Va)) env L : eMeth chk g fo fs env L = ((fo env L).bind fun w L1 => if chk L1 w then (fs env L1).bind fun ws L2 => g w ws L2 else .stuck) := by first | exact (rfl) | (unfold eMeth; exact (rfl))
@[simp] theorem u_mAppend w ws L : mAppend w ws L = (match w, ws with
  | .loc n, [v] => match L[n]? with
    | some (some (.lst us)) => if us.length < sizeLine then .ok (.d .none) (L.set n (some (.lst (us ++ [v])))) else .stuck
    | _ => .stuck
  | _, _ => .stuck) := by first | exact (rfl) | (unfold mAppend; exact (rfl))
@[simp] theorem u_mInsert w ws L : mInsert w ws L = (match w, ws with
  | .loc n, [.d (.int i), v] => match L[n]? with
    | some (some (.lst us)) => if us.length < sizeLine ∧ 0 ≤ i ∧ i < 2 ^ 63 then .ok (.d .none) (L.set n (some (.lst (us.take i.toNat ++ [v] ++ us.drop i.toNat)))) else .stuck
    | _ => .stuck
  | _, _ => .stuck) := by first | exact (rfl) | (unfold mInsert; exact (rfl))
@[simp] theorem u_mPop0 w ws L : mPop0 w ws L = (match w, ws with
  | .loc n, [] => match L[n]? with
    | some (some (.lst us)) => match us[us.length - 1]? with
      | some u => .ok u (L.set n (some (.lst us.dropLast)))
      | none => .stuck
    | _ => .stuck
  | _, _ => .stuck) := by first | exact (rfl) | (unfold mPop0; exact (rfl))
@[simp] theorem u_eNeg (f : EF) env L : eNeg f env L = ((f env L).bind fun w L1 => match w with
  | .d (.int i) => .ok (.d (.int (-i))) L1
  | _ => .stuck) := by first | exact (rfl) | (unfold eNeg; exact (rfl))
open Classical in
@[simp] theorem u_cRepr ws L : cRepr ws L = (match ws with
  | [w] => match w.data L with
    | some x => if okShow x then .ok (.d (.str x.shown)) L else .stuck
    | none => .stuck
  | _ => .stuck) := by first | exact (rfl) | (unfold cRepr; exact (rfl))
@[simp] theorem u_eRev (f : EF) env L : eRev f env L = ((f env L).bind fun w L1 => match w.data L1 with
  | some (.list xs) => .ok (.d (.list xs.reverse)) L1
  | some (.tuple xs) => .ok (.d (.tuple xs.reverse)) L1
  | _ => .stuck) := by first | exact (rfl) | (unfold eRev; exact (rfl))
@[simp] theorem u_isLs L w : isLs L w = (match w with
  | .d (.list _) => true
  | .loc n => match L[n]? with
    | some (some (.lst _)) => true
    | _ => false
  | _ => false) := by first | exact (rfl) | (unfold isLs; exact (rfl))
@[simp] theorem u_tTrue x0 L : tTrue x0 L = (.ok true L) := by first | exact (rfl) | (unfold tTrue; exact (rfl))
@[simp] theorem u_srcE (k0 : Int) (fs : En → LH → Res (List Va)) env L : srcE k0 fs env L = ((fs env L).bind fun ws L1 => match ws with
  | [w] => match srcOf w L1 with
    | some p => .ok (enumV k0 p.1, p.2) L1
    | none => .stuck
  | _ => .stuck) := by first | exact (rfl) | (unfold srcE; exact (rfl))
@[simp] theorem u_sRaise (x : Str) env L : sRaise x env L = (.exc x none env L) := by first | exact (rfl) | (unfold sRaise; exact (rfl))
@[simp] theorem u_fDisp (ps : List (EF × EF)) env L : fDisp ps env L = (match dsp ps env L with
  | .ok kvs L1 => if kvs.length ≤ 15 then .ok (.di (mergeA [] kvs)) L1 else .stuck
  | _ => .stuck) := by first | exact (rfl) | (unfold fDisp; exact (rfl))
@[simp] theorem u_sAugIx (op : Int → Int → Int) (f g e : EF) env L : sAugIx op f g e env L = ((f env L).then env fun w L1 => (g env L1).then env fun u L2 => match w, u with
  | .loc n, .d (.int k) => match L2[n]? with
    | some (some (.lst ws)) => if 0 ≤ k then match ws[k.toNat]? with
      | some (.d (.int a)) => (e env L2).then env fun v L3 => match v, L3[n]? with
        | .d (.int b), some (some (.lst ws3)) => if k.toNat < ws3.length then .nx env (L3.set n (some (.lst (ws3.set k.toNat (.d (.int (op a b))))))) else .stuck
        | _, _ => .stuck
      | _ => .stuck
      else .stuck
    | _ => .stuck
  | _, _ => .stuck) := by first | exact (rfl) | (unfold sAugIx; exact (rfl))
@[simp] theorem u_eGet1 (f g : EF) env L : eGet1 f g env L = ((f env L).bind fun w L1 => if isD L1 w then (g env L1).bind fun u L2 => match w.dget L2 u with
  | some (some x) => .ok x L2
  | some none => .ok (.d .none) L2
  | none => .stuck
  else .stuck) := by first | exact (rfl) | (unfold eGet1; exact (rfl))
@[simp] theorem u_eGet2 (f g h : EF) env L : eGet2 f g h env L = ((f env L).bind fun w L1 => if isD L1 w then (g env L1).bind fun u L2 => (h env L2).bind fun z L3 => match w.dget L3 u with
  | some (some x) => .ok x L3
  | some none => .ok z L3
  | none => .stuck
  else .stuck) := by first | exact (rfl) | (unfold eGet2; exact (rfl))
@[simp] theorem u_isD L w : isD L w = (match w with
  | .dct _ => true
  | .loc n => match L[n]? with
    | some (some (.di _)) => true
    | some (some (.dt _)) => true
    | _ => false
  | _ => false) := by first | exact (rfl) | (unfold isD; exact (rfl))
@[simp] theorem u_srcIt (i : Nat) env L : srcIt i env L = (match env[i]? with
  | some (some (.loc n)) => match L[n]? with
    | some (some (.di kvs)) => .ok (itemsV kvs, some n) L
    | _ => .stuck
  | _ => .stuck) := by first | exact (rfl) | (unfold srcIt; exact (rfl))
@[simp] theorem u_fSortIt (i : Nat) env L : fSortIt i env L = (match env[i]? with
  | some (some (.loc n)) => match L[n]? with
    | some (some (.di kvs)) => match intKvs kvs with
      | some ks => .ok (.lst (((sortP ks).map fun q => PyData.tuple [.int q.1, .int q.2]).map Va.d)) L
      | none => .stuck
    | _ => .stuck
  | _ => .stuck) := by first | exact (rfl) | (unfold fSortIt; exact (rfl))
open Classical in
@[simp] theorem u_cMin1X ws L : cMin1X ws L = (one ws L fun us => match vaInts us with
  | some ns => match minI ns with
    | some m => .ok (.d (.int m)) L
    | none => .stuck
  | none => match datas us with
    | some (x :: r) => if PySem.W.AlikeAll (x :: r) ∧ PyData.depthAll (x :: r) ≤ 60 then .ok (.d (PySem.W.minD x r)) L else .stuck
    | _ => .stuck) := by first | exact (rfl) | (unfold cMin1X; exact (rfl))
open Classical in
@[simp] theorem u_eMinDef (fs : En → LH → Res (List Va)) (g : EF) env L : eMinDef fs g env L = ((fs env L).bind fun ws L1 => (g env L1).bind fun z L2 => one ws L2 fun us => match datas us with
  | some [] => .ok z L2
  | some (x :: r) => if PySem.W.AlikeAll (x :: r) ∧ PyData.depthAll (x :: r) ≤ 60 then .ok (.d (PySem.W.minD x r)) L2 else .stuck
  | none => .stuck) := by first | exact (rfl) | (unfold eMinDef; exact (rfl))
@[simp] theorem u_fLstR1 (f : EF) env L : fLstR1 f env L = ((f env L).bind fun w L1 => match w with
  | .d (.int n) => if RgOk 0 n then .ok (.lst ((rngD 0 n.toNat).map Va.d)) L1 else .stuck
  | _ => .stuck) := by first | exact (rfl) | (unfold fLstR1; exact (rfl))
@[simp] theorem u_fLstR2 (f g : EF) env L : fLstR2 f g env L = ((f env L).bind fun w L1 => (g env L1).bind fun u L2 => match w, u with
  | .d (.int a), .d (.int b) => if RgOk a b then .ok (.lst ((rngD a (b - a).toNat).map Va.d)) L2 else .stuck
  | _, _ => .stuck) := by first | exact (rfl) | (unfold fLstR2; exact (rfl))
@[simp] theorem u_eTupR1 (f : EF) env L : eTupR1 f env L = ((f env L).bind fun w L1 => match w with
  | .d (.int n) => if RgOk 0 n then .ok (.d (.tuple (rngD 0 n.toNat))) L1 else .stuck
  | _ => .stuck) := by first | exact (rfl) | (unfold eTupR1; exact (rfl))
@[simp] theorem u_eTupR2 (f g : EF) env L : eTupR2 f g env L = ((f env L).bind fun w L1 => (g env L1).bind fun u L2 => match w, u with
  | .d (.int a), .d (.int b) => if RgOk a b then .ok (.d (.tuple (rngD a (b - a).toNat))) L2 else .stuck
  | _, _ => .stuck) := by first | exact (rfl) | (unfold eTupR2; exact (rfl))
@[simp] theorem u_eIsE (x : Str) (f : EF) env L : eIsE x f env L = ((f env L).bind fun w L1 => match w with
  | .exc c _ => if c ∈ ten then .ok (.d (.bool (isErr c x || decide (x = "ValueError")))) L1 else .stuck
  | .d .none => .ok (.d (.bool false)) L1
  | _ => .stuck) := by first | exact (rfl) | (unfold eIsE; exact (rfl))
@[simp] theorem u_sTry (i j : Nat) (f : SFn) env L : sTry i j f env L = (match f env L with
  | .exc c g env1 L1 => if c ∈ ten ∧ i < env1.length then .nx ((env1.set j (some (.exc c g))).set i none) L1 else .stuck
  | o => o) := by first | exact (rfl) | (unfold sTry; exact (rfl))
@[simp] theorem u_srcZ (fs : En → LH → Res (List Va)) env L : srcZ fs env L = ((fs env L).bind fun ws L1 => match ws with
  | [w, u] => match srcOf w L1, srcOf u L1 with
    | some (xs, none), some (ys, none) => match w, u with
      | .d (.list _), .d (.list _) => .ok (zipV xs ys, none) L1
      | .d (.tuple _), .d (.tuple _) => .ok (zipV xs ys, none) L1
      | _, _ => .stuck
    | _, _ => .stuck
  | _ => .stuck) := by first | exact (rfl) | (unfold srcZ; exact (rfl))
end L2.HW
namespace L2.HW
open PySem PySem.Spec PyProof.Rows
noncomputable def b_l_mixed : SFn :=
  (sSeq (sSet 2 (eOp opMod (eCallB cInt (aCons (eOp opAdd (eOp opAdd (eOp opMul (eOp opMod (eCallB cInt (aCons (eVar 0) aNil)) (eC (.int 2147483647))) (eC (.int 48271))) (eOp opMul (eVar 1) (eC (.int 69621)))) (eC (.int 1048583))) aNil)) (eC (.int 2147483629))))
  (sSeq (sSet 2 (eOp opMod (eCallB cInt (aCons (eOp opMul (eVar 2) (eVar 2)) aNil)) (eC (.int 2147483587))))
  (sRet (eOp opMod (eCallB cInt (aCons (eOp opMul (eVar 2) (eOp opAdd (eVar 2) (eC (.int 2)))) aNil)) (eC (.int 2147483579))))))
noncomputable def F_l_mixed : Fn := mkFn 2 3 b_l_mixed
noncomputable def b_l_pile_1 : SFn :=
  (sSet 3 (eOp opAdd (eOp opMul (eVar 3) (eC (.int 2147483579))) (eCall F_l_mixed (aCons (eVar 2) (aCons (eOp opAdd (eOp opAdd (eOp opMul (eC (.int 7)) (eVar 1)) (eOp opMul (eC (.int 100)) (eVar 4))) (eOp opMul (eVar 4) (eVar 4))) aNil)))))
noncomputable def b_l_pile : SFn :=
  (sSeq (sSet 2 (eC (.int 0)))
  (sSeq (sIf (tVal (eOp opLt (eVar 1) (eCallB cLen (aCons (eVar 0) aNil)))) (sSet 2 (eOp opIx (eVar 0) (eVar 1))) sNil)
  (sSeq (sIf (tVal (eOp opGe (eVar 2) (eOp opPow (eC (.int 10)) (eC (.int 18))))) (sRetF (fLst (aCons (eOp opMod (eCallB cInt (aCons (eOp opSub (eVar 2) (eOp opPow (eC (.int 10)) (eC (.int 18)))) aNil)) (eOp opMul (eOp opMul (eOp opMul (eOp opPow (eC (.int 10)) (eC (.int 60))) (eOp opPow (eC (.int 10)) (eC (.int 60)))) (eOp opPow (eC (.int 10)) (eC (.int 60)))) (eOp opPow (eC (.int 10)) (eC (.int 60))))) aNil))) sNil)
  (sSeq (sSet 3 (eC (.int 0)))
  (sSeq (sFor (srcR1 (aCons (eC (.int 24)) aNil)) (tN 4) b_l_pile_1)
  (sRetF (fLst (aCons (eVar 3) aNil))))))))
noncomputable def F_l_pile : FnF := mkFnF 2 5 b_l_pile
noncomputable def b_l_take : SFn :=
  (sSeq (sSet 2 (eOp opMod (eCallB cInt (aCons (eOp opIx (eVar 0) (eC (.int 0))) aNil)) (eVar 1)))
  (sSeq (sAsg (eOp opDiv (eOp opIx (eVar 0) (eC (.int 0))) (eVar 1)) (tIx (eVar 0) (eC (.int 0))))
  (sRet (eVar 2))))
noncomputable def F_l_take : Fn := mkFn 2 3 b_l_take
noncomputable def b_l_roads_1 : SFn :=
  (sSeq (sSet 6 (eCall F_l_take (aCons (eVar 0) (aCons (eOp opSub (eVar 1) (eC (.int 1))) aNil))))
  (sSeq (sIf (tVal (eOp opGe (eVar 6) (eVar 2))) (sSet 6 (eOp opAdd (eVar 6) (eC (.int 1)))) sNil)
  (sSeq (sSet 7 (eCall F_l_take (aCons (eVar 0) (aCons (eOp opSub (eVar 1) (eC (.int 1))) aNil))))
  (sSeq (sIf (tVal (eOp opGe (eVar 7) (eVar 6))) (sSet 7 (eOp opAdd (eVar 7) (eC (.int 1)))) sNil)
  (sExpr (eMeth isLs mAppend (eVar 4) (aCons (eTup (aCons (eVar 6) (aCons (eVar 7) (aCons (eOp opAdd (eC (.int 1)) (eOp opIx (eDat (fLst (aCons (eC (.int 0)) (aCons (eC (.int 0)) (aCons (eC (.int 1)) (aCons (eC (.int 2)) (aCons (eC (.int 4)) aNil))))))) (eCall F_l_take (aCons (eVar 0) (aCons (eC (.int 5)) aNil))))) (aCons (eOp opAdd (eC (.int 1)) (eCall F_l_take (aCons (eVar 0) (aCons (eC (.int 3)) aNil)))) aNil))))) aNil)))))))
noncomputable def b_l_roads : SFn :=
  (sSeq (sSet 4 (eNew (fLst aNil)))
  (sSeq (sFor (srcR1 (aCons (eVar 3) aNil)) (tN 5) b_l_roads_1)
  (sRet (eCallB cTuple (aCons (eVar 4) aNil)))))
noncomputable def F_l_roads : Fn := mkFn 4 8 b_l_roads
noncomputable def b_l_web : SFn :=
  (sSeq (sSet 2 (eOp opAdd (eC (.int 2)) (eCall F_l_take (aCons (eVar 0) (aCons (eOp opSub (eVar 1) (eC (.int 1))) aNil)))))
  (sSeq (sSet 3 (eCall F_l_take (aCons (eVar 0) (aCons (eVar 2) aNil))))
  (sSeq (sSet 4 (eOp opMod (eCallB cInt (aCons (eOp opAdd (eOp opAdd (eVar 3) (eC (.int 1))) (eCall F_l_take (aCons (eVar 0) (aCons (eOp opSub (eVar 2) (eC (.int 1))) aNil)))) aNil)) (eVar 2)))
  (sRet (eTup (aCons (eVar 2) (aCons (eVar 4) (aCons (eVar 3) (aCons (eCall F_l_roads (aCons (eVar 0) (aCons (eVar 2) (aCons (eVar 3) (aCons (eCall F_l_take (aCons (eVar 0) (aCons (eOp opAdd (eOp opMul (eC (.int 2)) (eVar 2)) (eC (.int 2))) aNil))) aNil))))) aNil)))))))))
noncomputable def F_l_web : Fn := mkFn 2 5 b_l_web
noncomputable def b_is_whole : SFn :=
  (sRet (eAnd (eIsi "int" (eVar 0)) (eAnd (eNot (eIsi "bool" (eVar 0))) (eOp opGe (eVar 0) (eC (.int 0))))))
noncomputable def F_is_whole : Fn := mkFn 1 1 b_is_whole
noncomputable def b_is_place : SFn :=
  (sRet (eAnd (eCall F_is_whole (aCons (eVar 1) aNil)) (eOp opLt (eVar 1) (eVar 0))))
noncomputable def F_is_place : Fn := mkFn 2 2 b_is_place
noncomputable def b_is_more : SFn :=
  (sRet (eAnd (eCall F_is_whole (aCons (eVar 0) aNil)) (eOp opGt (eVar 0) (eC (.int 0)))))
noncomputable def F_is_more : Fn := mkFn 1 1 b_is_more
noncomputable def b_is_road : SFn :=
  (sSeq (sIf (tOrF (tNotF (tVal (eIsi "tuple" (eVar 2)))) (tVal (eOp opNe (eCallB cLen (aCons (eVar 2) aNil)) (eC (.int 4))))) (sRet (eC (.bool false))) sNil)
  (sSeq (sAsg (eVar 2) (tTupT 4 (tgCons (tN 3) (tgCons (tN 4) (tgCons (tN 5) (tgCons (tN 6) tgNil))))))
  (sSeq (sIf (tOrF (tNotF (tVal (eCall F_is_place (aCons (eVar 0) (aCons (eVar 3) aNil))))) (tOrF (tNotF (tVal (eCall F_is_place (aCons (eVar 0) (aCons (eVar 4) aNil))))) (tOrF (tVal (eOp opEq (eVar 3) (eVar 4))) (tVal (eOp opEq (eVar 3) (eVar 1)))))) (sRet (eC (.bool false))) sNil)
  (sRet (eAnd (eCall F_is_more (aCons (eVar 5) aNil)) (eCall F_is_more (aCons (eVar 6) aNil)))))))
noncomputable def F_is_road : Fn := mkFn 3 7 b_is_road
noncomputable def b_is_right_web : SFn :=
  (sSeq (sIf (tOrF (tNotF (tVal (eIsi "tuple" (eVar 0)))) (tOrF (tVal (eOp opNe (eCallB cLen (aCons (eVar 0) aNil)) (eC (.int 4)))) (tOrF (tNotF (tVal (eCall F_is_whole (aCons (eOp opIx (eVar 0) (eC (.int 0))) aNil)))) (tVal (eOp opLt (eOp opIx (eVar 0) (eC (.int 0))) (eC (.int 2))))))) (sRet (eC (.bool false))) sNil)
  (sSeq (sAsg (eVar 0) (tTupT 4 (tgCons (tN 1) (tgCons (tN 2) (tgCons (tN 3) (tgCons (tN 4) tgNil))))))
  (sSeq (sIf (tOrF (tNotF (tVal (eCall F_is_place (aCons (eVar 1) (aCons (eVar 2) aNil))))) (tOrF (tNotF (tVal (eCall F_is_place (aCons (eVar 1) (aCons (eVar 3) aNil))))) (tOrF (tVal (eOp opEq (eVar 2) (eVar 3))) (tNotF (tVal (eIsi "tuple" (eVar 4))))))) (sRet (eC (.bool false))) sNil)
  (sRet (eCallB cAll (aCons (eDat (fComp (srcV (eVar 4)) (tN 5) tTrue (eCall F_is_road (aCons (eVar 1) (aCons (eVar 3) (aCons (eVar 5) aNil)))) [5])) aNil))))))
noncomputable def F_is_right_web : Fn := mkFn 1 6 b_is_right_web
noncomputable def b_l_whole : SFn :=
  (sRet (eAnd (eIsi "int" (eVar 0)) (eNot (eIsi "bool" (eVar 0)))))
noncomputable def F_l_whole : Fn := mkFn 1 1 b_l_whole
noncomputable def b_l_is_from : SFn :=
  (sRet (eAnd (eCall F_l_whole (aCons (eVar 0) aNil)) (eOp opGe (eVar 0) (eVar 1))))
noncomputable def F_l_is_from : Fn := mkFn 2 2 b_l_is_from
noncomputable def b_l_is_place : SFn :=
  (sRet (eAnd (eCall F_l_is_from (aCons (eVar 1) (aCons (eC (.int 0)) aNil))) (eOp opLt (eVar 1) (eVar 0))))
noncomputable def F_l_is_place : Fn := mkFn 2 2 b_l_is_place
noncomputable def b_l_is_road : SFn :=
  (sSeq (sIf (tOrF (tNotF (tVal (eIsi "tuple" (eVar 2)))) (tVal (eOp opNe (eCallB cLen (aCons (eVar 2) aNil)) (eC (.int 4))))) (sRet (eC (.bool false))) sNil)
  (sSeq (sAsg (eVar 2) (tTupT 4 (tgCons (tN 3) (tgCons (tN 4) (tgCons (tN 5) (tgCons (tN 6) tgNil))))))
  (sSeq (sIf (tOrF (tNotF (tVal (eCall F_l_is_place (aCons (eVar 0) (aCons (eVar 3) aNil))))) (tOrF (tNotF (tVal (eCall F_l_is_place (aCons (eVar 0) (aCons (eVar 4) aNil))))) (tOrF (tVal (eOp opEq (eVar 3) (eVar 4))) (tVal (eOp opEq (eVar 3) (eVar 1)))))) (sRet (eC (.bool false))) sNil)
  (sRet (eAnd (eCall F_l_is_from (aCons (eVar 5) (aCons (eC (.int 1)) aNil))) (eCall F_l_is_from (aCons (eVar 6) (aCons (eC (.int 1)) aNil))))))))
noncomputable def F_l_is_road : Fn := mkFn 3 7 b_l_is_road
noncomputable def b_is_pair : SFn :=
  (sSeq (sIf (tOrF (tNotF (tVal (eIsi "tuple" (eVar 2)))) (tOrF (tVal (eOp opNe (eCallB cLen (aCons (eVar 2) aNil)) (eC (.int 2)))) (tNotF (tVal (eCallB cAll (aCons (eDat (fComp (srcV (eVar 2)) (tN 3) tTrue (eCall F_is_place (aCons (eVar 0) (aCons (eVar 3) aNil))) [3])) aNil)))))) (sRet (eC (.bool false))) sNil)
  (sRet (eAnd (eOp opNe (eOp opIx (eVar 2) (eC (.int 0))) (eOp opIx (eVar 2) (eC (.int 1)))) (eOp opNe (eOp opIx (eVar 2) (eC (.int 0))) (eVar 1)))))
noncomputable def F_is_pair : Fn := mkFn 3 4 b_is_pair
noncomputable def b_look_at_web : SFn :=
  (sIf (tNotF (tVal (eCall F_is_right_web (aCons (eVar 0) aNil)))) (sRaise "NoWeb") sNil)
noncomputable def F_look_at_web : Fn := mkFn 1 1 b_look_at_web
end L2.HW
namespace L2.HW
open PySem PySem.Spec PyProof.Rows
end L2.HW
namespace L2.HW
open PySem PySem.Spec PyProof.Rows
end L2.HW
namespace L2.HW
open PySem PySem.Spec PyProof.Rows
end L2.HW
namespace L2.HW
open PySem PySem.Spec PyProof.Rows
end L2.HW
namespace L2.HW
open PySem PySem.Spec PyProof.Rows
end L2.HW
namespace L2.HW
open PySem PySem.Spec PyProof.Rows
end L2.HW
namespace L2.HW
open PySem PySem.Spec PyProof.Rows
end L2.HW
namespace L2.HW
open PySem PySem.Spec PyProof.Rows
end L2.HW
namespace L2.HW
open PySem PySem.Spec PyProof.Rows
end L2.HW
namespace L2.HW
open PySem PySem.Spec PyProof.Rows
end L2.HW
namespace L2.HW
open PySem PySem.Spec PyProof.Rows
end L2.HW
namespace L2.HW
open PySem PySem.Spec PyProof.Rows
end L2.HW
namespace L2.HW
open PySem PySem.Spec PyProof.Rows
noncomputable def b_Site_init : SFn :=
  (sSeq (sExpr (eCall F_look_at_web (aCons (eVar 1) aNil)))
  (sSeq (sAsg (eVar 1) (tTupT 4 (tgCons (tFldG "Site" "many" (eVar 0)) (tgCons (tFldG "Site" "begin" (eVar 0)) (tgCons (tFldG "Site" "end" (eVar 0)) (tgCons (tN 2) tgNil))))))
  (sSeq (sFldS "Site" "roads" (eVar 0) (eDat (fCallB cList (aCons (eVar 2) aNil))))
  (sFldS "Site" "past" (eVar 0) (eNew (fLst aNil))))))
noncomputable def F_Site_init : Fn := mkFnC 2 3 b_Site_init
noncomputable def b_Site_len : SFn :=
  (sRet (eCallB cLen (aCons (eFld "Site" "roads" (eVar 0)) aNil)))
noncomputable def F_Site_len : Fn := mkFnC 1 1 b_Site_len
noncomputable def b_Site_web : SFn :=
  (sRet (eTup (aCons (eFld "Site" "many" (eVar 0)) (aCons (eFld "Site" "begin" (eVar 0)) (aCons (eFld "Site" "end" (eVar 0)) (aCons (eCallB cTuple (aCons (eFld "Site" "roads" (eVar 0)) aNil)) aNil))))))
noncomputable def F_Site_web : Fn := mkFnC 1 1 b_Site_web
noncomputable def b_Site_look_at_new : SFn :=
  (sIf (tNotF (tVal (eCall F_is_road (aCons (eFld "Site" "many" (eVar 0)) (aCons (eFld "Site" "end" (eVar 0)) (aCons (eVar 1) aNil)))))) (sRaise "NotRoad") sNil)
noncomputable def F_Site_look_at_new : Fn := mkFnC 2 2 b_Site_look_at_new
noncomputable def b_Site_take : SFn :=
  (sSeq (sExpr (eMeth isLs mAppend (eFld "Site" "past" (eVar 0)) (aCons (eFld "Site" "roads" (eVar 0)) aNil)))
  (sFldS "Site" "roads" (eVar 0) (eVar 1)))
noncomputable def F_Site_take : Fn := mkFnC 2 2 b_Site_take
noncomputable def b_Site_put : SFn :=
  (sSeq (sExpr (eCallM "Site" "look_at_new" F_Site_look_at_new (eVar 0) (aCons (eTup (aCons (eVar 1) (aCons (eVar 2) (aCons (eVar 3) (aCons (eVar 4) aNil))))) aNil)))
  (sSeq (sExpr (eCallM "Site" "take" F_Site_take (eVar 0) (aCons (eDat (fLst (aStar (eFld "Site" "roads" (eVar 0)) (aCons (eTup (aCons (eVar 1) (aCons (eVar 2) (aCons (eVar 3) (aCons (eVar 4) aNil))))) aNil)))) aNil)))
  (sRet (eOp opSub (eCallB cLen (aCons (eFld "Site" "roads" (eVar 0)) aNil)) (eC (.int 1))))))
noncomputable def F_Site_put : Fn := mkFnC 5 5 b_Site_put
noncomputable def b_Site_look_at_place : SFn :=
  (sIf (tOrF (tNotF (tVal (eCall F_is_whole (aCons (eVar 1) aNil)))) (tVal (eOp opGe (eVar 1) (eCallB cLen (aCons (eFld "Site" "roads" (eVar 0)) aNil))))) (sRaise "NoRoad") sNil)
noncomputable def F_Site_look_at_place : Fn := mkFnC 2 2 b_Site_look_at_place
noncomputable def b_Site_drop : SFn :=
  (sSeq (sExpr (eCallM "Site" "look_at_place" F_Site_look_at_place (eVar 0) (aCons (eVar 1) aNil)))
  (sExpr (eCallM "Site" "take" F_Site_take (eVar 0) (aCons (eOp opAdd (eSl (eFld "Site" "roads" (eVar 0)) pNone (pSome (eVar 1))) (eSl (eFld "Site" "roads" (eVar 0)) (pSome (eOp opAdd (eVar 1) (eC (.int 1)))) pNone)) aNil))))
noncomputable def F_Site_drop : Fn := mkFnC 2 2 b_Site_drop
noncomputable def b_Site_turn : SFn :=
  (sSeq (sExpr (eCallM "Site" "look_at_place" F_Site_look_at_place (eVar 0) (aCons (eVar 1) aNil)))
  (sSeq (sSet 4 (eTup (aStar (eSl (eOp opIx (eFld "Site" "roads" (eVar 0)) (eVar 1)) pNone (pSome (eC (.int 2)))) (aCons (eVar 2) (aCons (eVar 3) aNil)))))
  (sSeq (sExpr (eCallM "Site" "look_at_new" F_Site_look_at_new (eVar 0) (aCons (eVar 4) aNil)))
  (sExpr (eCallM "Site" "take" F_Site_take (eVar 0) (aCons (eDat (fLst (aStar (eSl (eFld "Site" "roads" (eVar 0)) pNone (pSome (eVar 1))) (aCons (eVar 4) (aStar (eSl (eFld "Site" "roads" (eVar 0)) (pSome (eOp opAdd (eVar 1) (eC (.int 1)))) pNone) aNil))))) aNil))))))
noncomputable def F_Site_turn : Fn := mkFnC 4 5 b_Site_turn
noncomputable def b_Site_ior : SFn :=
  (sSeq (sIf (tOrF (tNotF (tVal (eIsO "Site" (eVar 1)))) (tVal (eOp opNe (eSl (eCallM "Site" "web" F_Site_web (eVar 0) aNil) pNone (pSome (eC (.int 3)))) (eSl (eCallM "Site" "web" F_Site_web (eVar 1) aNil) pNone (pSome (eC (.int 3))))))) (sRaise "Unlike") sNil)
  (sSeq (sExpr (eCallM "Site" "take" F_Site_take (eVar 0) (aCons (eOp opAdd (eFld "Site" "roads" (eVar 0)) (eFld "Site" "roads" (eVar 1))) aNil)))
  (sRet (eVar 0))))
noncomputable def F_Site_ior : Fn := mkFnC 2 2 b_Site_ior
noncomputable def b_Site_back : SFn :=
  (sSeq (sIf (tVal (eOp (opEqE false) (eFld "Site" "past" (eVar 0)) (eDat (fLst aNil)))) (sRet (eC (.bool false))) sNil)
  (sSeq (sFldS "Site" "roads" (eVar 0) (eMeth isLs mPop0 (eFld "Site" "past" (eVar 0)) aNil))
  (sRet (eC (.bool true)))))
noncomputable def F_Site_back : Fn := mkFnC 1 1 b_Site_back
end L2.HW
namespace L2.HW
open PySem PySem.Spec PyProof.Rows
noncomputable def b_Site_eq : SFn :=
  (sRet (eAnd (eIsO "Site" (eVar 1)) (eOp opEq (eCallM "Site" "web" F_Site_web (eVar 0) aNil) (eCallM "Site" "web" F_Site_web (eVar 1) aNil))))
noncomputable def F_Site_eq : Fn := mkFnC 2 2 b_Site_eq
noncomputable def b_l_pair_good_v2 : SFn :=
  (sSeq (sSet 3 (eDat (fLst (aCons (eEqO false "Site" F_Site_eq (eVar 0) (eVar 1)) (aCons (eEqO false "Site" F_Site_eq (eVar 1) (eVar 0)) (aCons (eEqO false "Site" F_Site_eq (eVar 0) (eVar 0)) (aCons (eEqO true "Site" F_Site_eq (eVar 0) (eVar 1)) (aCons (eEqO true "Site" F_Site_eq (eVar 1) (eVar 0)) aNil))))))))
  (sSeq (sIf (tVal (eOp opNe (eDat (fComp (srcV (eVar 3)) (tN 4) (tNotF (tVal (eIsi "bool" (eVar 4)))) (eVar 4) [4])) (eDat (fLst aNil)))) (sRet (eC (.bool false))) sNil)
  (sRet (eOp opEq (eVar 3) (eDat (fLst (aCons (eVar 2) (aCons (eVar 2) (aCons (eC (.bool true)) (aCons (eNot (eVar 2)) (aCons (eNot (eVar 2)) aNil)))))))))))
noncomputable def F_l_pair_good_v2 : Fn := mkFn 3 5 b_l_pair_good_v2
noncomputable def b_l_deed : SFn :=
  (sIf (tVal (eOp opEq (eVar 1) (eC (.int 0)))) (sExpr (eCallM "Site" "put" F_Site_put (eVar 0) (aCons (eOp opIx (eVar 2) (eC (.int 0))) (aCons (eOp opIx (eVar 2) (eC (.int 1))) (aCons (eOp opIx (eVar 2) (eC (.int 2))) (aCons (eOp opIx (eVar 2) (eC (.int 3))) aNil)))))) (sIf (tAndF (tVal (eOp opEq (eVar 1) (eC (.int 1)))) (tVal (eOp opGt (eLenO "Site" F_Site_len (aCons (eVar 0) aNil)) (eC (.int 0))))) (sExpr (eCallM "Site" "drop" F_Site_drop (eVar 0) (aCons (eC (.int 0)) aNil))) (sIf (tAndF (tVal (eOp opEq (eVar 1) (eC (.int 2)))) (tVal (eOp opGt (eLenO "Site" F_Site_len (aCons (eVar 0) aNil)) (eC (.int 0))))) (sExpr (eCallM "Site" "turn" F_Site_turn (eVar 0) (aCons (eOp opSub (eLenO "Site" F_Site_len (aCons (eVar 0) aNil)) (eC (.int 1))) (aCons (eC (.int 7)) (aCons (eC (.int 8)) aNil))))) sNil)))
noncomputable def F_l_deed : Fn := mkFn 3 3 b_l_deed
noncomputable def b_l_good_v17_1 : SFn :=
  (sSeq (sPar 10 11 (aCons (eCallM "Site" "web" F_Site_web (eVar 7) aNil) (aCons (eLenO "Site" F_Site_len (aCons (eVar 7) aNil)) aNil)))
  (sSeq (sExpr (eCall F_l_deed (aCons (eVar 7) (aCons (eVar 3) (aCons (eVar 2) aNil)))))
  (sSeq (sIf (tOrF (tVal (eOp opNe (eCallM "Site" "web" F_Site_web (eVar 8) aNil) (eVar 9))) (tNotF (tVal (eCall F_l_pair_good_v2 (aCons (eVar 7) (aCons (eVar 8) (aCons (eOp opEq (eCallM "Site" "web" F_Site_web (eVar 7) aNil) (eVar 9)) aNil))))))) (sRet (eC (.bool false))) sNil)
  (sIf (tOrF (tAndF (tOrF (tVal (eOp opEq (eVar 3) (eC (.int 0)))) (tVal (eOp opGt (eVar 11) (eC (.int 0))))) (tVal (eOp opNotB (eCallM "Site" "back" F_Site_back (eVar 7) aNil) (eC (.bool true))))) (tVal (eOp opNe (eCallM "Site" "web" F_Site_web (eVar 7) aNil) (eVar 10)))) (sRet (eC (.bool false))) sNil))))
noncomputable def b_l_good_v17_2 : SFn :=
  (sSeq (sPar 5 6 (aCons (eMake "Site" F_Site_init (aCons (eVar 0) aNil)) (aCons (eMake "Site" F_Site_init (aCons (eVar 1) aNil)) aNil)))
  (sSeq (sSet 4 (eOp opEq (eVar 0) (eVar 1)))
  (sSeq (sIf (tNotF (tVal (eCall F_l_pair_good_v2 (aCons (eVar 5) (aCons (eVar 6) (aCons (eVar 4) aNil)))))) (sRet (eC (.bool false))) sNil)
  (sSeq (sFor (srcV (eNew (fLst (aCons (eTup (aCons (eVar 5) (aCons (eVar 6) (aCons (eVar 1) aNil)))) (aCons (eTup (aCons (eVar 6) (aCons (eVar 5) (aCons (eVar 0) aNil)))) aNil))))) (tTupT 3 (tgCons (tN 7) (tgCons (tN 8) (tgCons (tN 9) tgNil)))) b_l_good_v17_1)
  (sIf (tOrF (tNotF (tVal (eCall F_l_pair_good_v2 (aCons (eVar 5) (aCons (eVar 6) (aCons (eVar 4) aNil)))))) (tOrF (tVal (eOp opNotB (eCallM "Site" "back" F_Site_back (eVar 5) aNil) (eC (.bool false)))) (tVal (eOp opNotB (eCallM "Site" "back" F_Site_back (eVar 6) aNil) (eC (.bool false)))))) (sRet (eC (.bool false))) sNil)))))
noncomputable def b_l_good_v17 : SFn :=
  (sSeq (sFor (srcR1 (aCons (eC (.int 3)) aNil)) (tN 3) b_l_good_v17_2)
  (sRet (eC (.bool true))))
noncomputable def F_l_good_v17 : Fn := mkFn 3 12 b_l_good_v17
noncomputable def b_l_joined_good : SFn :=
  (sSeq (sAsg (eTup (aCons (eMake "Site" F_Site_init (aCons (eVar 0) aNil)) (aCons (eMake "Site" F_Site_init (aCons (eVar 1) aNil)) aNil))) (tTupT 2 (tgCons (tN 3) (tgCons (tN 4) tgNil))))
  (sSeq (sIf (tVal (eOp opNe (eSl (eVar 0) pNone (pSome (eC (.int 3)))) (eSl (eVar 1) pNone (pSome (eC (.int 3)))))) (sRet (eC (.bool true))) sNil)
  (sSeq (sSet 5 (eOp opAdd (eOp opIx (eVar 1) (eC (.int 3))) (eTup (aCons (eVar 2) aNil))))
  (sSeq (sSet 5 (eOp opAdd (eTup (aCons (eTup (aCons (eOp opIx (eOp opIx (eVar 5) (eC (.int 0))) (eC (.int 0))) (aCons (eOp opIx (eOp opIx (eVar 5) (eC (.int 0))) (eC (.int 1))) (aCons (eC (.int 6)) (aCons (eC (.int 7)) aNil))))) aNil)) (eSl (eVar 5) (pSome (eC (.int 1))) pNone)))
  (sSeq (sExpr (eCallM "Site" "put" F_Site_put (eVar 4) (aCons (eOp opIx (eVar 2) (eC (.int 0))) (aCons (eOp opIx (eVar 2) (eC (.int 1))) (aCons (eOp opIx (eVar 2) (eC (.int 2))) (aCons (eOp opIx (eVar 2) (eC (.int 3))) aNil))))))
  (sSeq (sExpr (eCallM "Site" "turn" F_Site_turn (eVar 4) (aCons (eC (.int 0)) (aCons (eC (.int 6)) (aCons (eC (.int 7)) aNil)))))
  (sSeq (sExpr (eCallM "Site" "put" F_Site_put (eVar 4) (aCons (eOp opIx (eVar 2) (eC (.int 0))) (aCons (eOp opIx (eVar 2) (eC (.int 1))) (aCons (eOp opIx (eVar 2) (eC (.int 2))) (aCons (eOp opIx (eVar 2) (eC (.int 3))) aNil))))))
  (sSeq (sExpr (eCallM "Site" "drop" F_Site_drop (eVar 4) (aCons (eOp opAdd (eCallB cLen (aCons (eOp opIx (eVar 1) (eC (.int 3))) aNil)) (eC (.int 1))) aNil)))
  (sSeq (sSet 6 (eVar 3))
  (sSeq (sAugO "Site" F_Site_ior 6 (eVar 4))
  (sSeq (sIf (tOrF (tVal (eOp opNe (eOp opIx (eCallM "Site" "web" F_Site_web (eVar 3) aNil) (eC (.int 3))) (eOp opAdd (eOp opIx (eVar 0) (eC (.int 3))) (eVar 5)))) (tOrF (tVal (eOp opNe (eOp opIx (eCallM "Site" "web" F_Site_web (eVar 4) aNil) (eC (.int 3))) (eVar 5))) (tVal (eOp opNe (eCallM "Site" "web" F_Site_web (eVar 6) aNil) (eCallM "Site" "web" F_Site_web (eVar 3) aNil))))) (sRet (eC (.bool false))) sNil)
  (sSeq (sExpr (eCallM "Site" "put" F_Site_put (eVar 3) (aCons (eOp opIx (eVar 2) (eC (.int 0))) (aCons (eOp opIx (eVar 2) (eC (.int 1))) (aCons (eOp opIx (eVar 2) (eC (.int 2))) (aCons (eOp opIx (eVar 2) (eC (.int 3))) aNil))))))
  (sSeq (sIf (tOrF (tVal (eOp opNe (eCallM "Site" "web" F_Site_web (eVar 6) aNil) (eCallM "Site" "web" F_Site_web (eVar 3) aNil))) (tOrF (tVal (eOp opNe (eOp opIx (eCallM "Site" "web" F_Site_web (eVar 4) aNil) (eC (.int 3))) (eVar 5))) (tVal (eOp opNotB (eCallM "Site" "back" F_Site_back (eVar 3) aNil) (eC (.bool true)))))) (sRet (eC (.bool false))) sNil)
  (sSeq (sExpr (eCallM "Site" "put" F_Site_put (eVar 4) (aCons (eOp opIx (eVar 2) (eC (.int 0))) (aCons (eOp opIx (eVar 2) (eC (.int 1))) (aCons (eOp opIx (eVar 2) (eC (.int 2))) (aCons (eOp opIx (eVar 2) (eC (.int 3))) aNil))))))
  (sSeq (sExpr (eCallM "Site" "turn" F_Site_turn (eVar 4) (aCons (eC (.int 0)) (aCons (eC (.int 8)) (aCons (eC (.int 9)) aNil)))))
  (sSeq (sExpr (eCallM "Site" "drop" F_Site_drop (eVar 4) (aCons (eCallB cLen (aCons (eVar 5) aNil)) aNil)))
  (sSeq (sIf (tVal (eOp opNe (eOp opIx (eCallM "Site" "web" F_Site_web (eVar 3) aNil) (eC (.int 3))) (eOp opAdd (eOp opIx (eVar 0) (eC (.int 3))) (eVar 5)))) (sRet (eC (.bool false))) sNil)
  (sSeq (sExpr (eCallM "Site" "turn" F_Site_turn (eVar 3) (aCons (eCallB cLen (aCons (eOp opIx (eVar 0) (eC (.int 3))) aNil)) (aCons (eC (.int 5)) (aCons (eC (.int 5)) aNil)))))
  (sSeq (sExpr (eCallM "Site" "drop" F_Site_drop (eVar 3) (aCons (eCallB cLen (aCons (eOp opIx (eVar 0) (eC (.int 3))) aNil)) aNil)))
  (sSeq (sIf (tVal (eOp opNe (eOp opIx (eCallM "Site" "web" F_Site_web (eVar 4) aNil) (eC (.int 3))) (eOp opAdd (eTup (aCons (eTup (aCons (eOp opIx (eOp opIx (eVar 5) (eC (.int 0))) (eC (.int 0))) (aCons (eOp opIx (eOp opIx (eVar 5) (eC (.int 0))) (eC (.int 1))) (aCons (eC (.int 8)) (aCons (eC (.int 9)) aNil))))) aNil)) (eSl (eVar 5) (pSome (eC (.int 1))) pNone)))) (sRet (eC (.bool false))) sNil)
  (sSeq (sIf (tOrF (tVal (eOp opNe (eDat (fLst (aCons (eCallM "Site" "back" F_Site_back (eVar 3) aNil) (aCons (eCallM "Site" "back" F_Site_back (eVar 3) aNil) (aCons (eCallM "Site" "back" F_Site_back (eVar 3) aNil) aNil))))) (eOp opMul (eDat (fLst (aCons (eC (.bool true)) aNil))) (eC (.int 3))))) (tVal (eOp opNe (eCallM "Site" "web" F_Site_web (eVar 3) aNil) (eVar 0)))) (sRet (eC (.bool false))) sNil)
  (sSeq (sSet 7 (eDat (fComp (srcR1 (aCons (eC (.int 8)) aNil)) (tN 8) tTrue (eCallM "Site" "back" F_Site_back (eVar 4) aNil) [8])))
  (sRet (eAnd (eOp opEq (eVar 7) (eOp opAdd (eOp opMul (eDat (fLst (aCons (eC (.bool true)) aNil))) (eC (.int 7))) (eDat (fLst (aCons (eC (.bool false)) aNil))))) (eAnd (eOp opEq (eCallM "Site" "web" F_Site_web (eVar 4) aNil) (eVar 1)) (eOp opIsB (eCallM "Site" "back" F_Site_back (eVar 3) aNil) (eC (.bool false))))))))))))))))))))))))))))
noncomputable def F_l_joined_good : Fn := mkFn 3 9 b_l_joined_good
noncomputable def b_law_k51_1 : SFn :=
  (sIf (tOrF (tNotF (tVal (eCall F_l_good_v17 (aCons (eVar 4) (aCons (eVar 7) (aCons (eVar 3) aNil)))))) (tNotF (tVal (eCall F_l_joined_good (aCons (eVar 4) (aCons (eVar 7) (aCons (eVar 3) aNil))))))) (sRet (eC (.bool false))) sNil)
noncomputable def b_law_k51_2 : SFn :=
  (sIf (tNotF (tVal (eCall F_l_pair_good_v2 (aCons (eVar 8) (aCons (eVar 9) (aCons (eC (.bool false)) aNil)))))) (sRet (eC (.bool false))) sNil)
noncomputable def b_law_k51_3 : SFn :=
  (sSeq (sSet 2 (eNew (fCall F_l_pile (aCons (eVar 0) (aCons (eVar 1) aNil)))))
  (sSeq (sAsg (eCall F_l_web (aCons (eVar 2) (aCons (eC (.int 4)) aNil))) (tTupT 4 (tgCons (tN 12) (tgCons (tN 13) (tgCons (tN 14) (tgCons (tN 15) tgNil))))))
  (sSeq (sSet 3 (eTup (aCons (eVar 13) (aCons (eVar 14) (aCons (eOp opAdd (eC (.int 1)) (eCall F_l_take (aCons (eVar 2) (aCons (eC (.int 5)) aNil)))) (aCons (eOp opAdd (eC (.int 1)) (eCall F_l_take (aCons (eVar 2) (aCons (eC (.int 5)) aNil)))) aNil))))))
  (sSeq (sSet 4 (eTup (aCons (eVar 12) (aCons (eVar 13) (aCons (eVar 14) (aCons (eVar 15) aNil))))))
  (sSeq (sSet 5 (eDat (fLst (aCons (eVar 4) (aCons (eTup (aCons (eVar 12) (aCons (eVar 13) (aCons (eVar 14) (aCons (eRev (eVar 15)) aNil))))) (aCons (eTup (aCons (eVar 12) (aCons (eVar 13) (aCons (eVar 14) (aCons (eSl (eVar 15) pNone (pSome (eNeg (eC (.int 1))))) aNil))))) (aCons (eTup (aCons (eOp opAdd (eVar 12) (eC (.int 1))) (aCons (eVar 13) (aCons (eVar 14) (aCons (eVar 15) aNil))))) aNil)))))))
  (sSeq (sSet 6 (eOp opIx (eDat (fComp (srcR1 (aCons (eOp opAdd (eVar 12) (eC (.int 1))) aNil)) (tN 16) (tVal (eOp (opIn true) (eVar 16) (eDat (fLst (aCons (eVar 13) (aCons (eVar 14) aNil)))))) (eVar 16) [16])) (eC (.int 0))))
  (sSeq (sFor (srcV (eOp opAdd (eVar 5) (eDat (fLst (aCons (eTup (aCons (eOp opAdd (eVar 12) (eC (.int 1))) (aCons (eVar 6) (aCons (eVar 14) (aCons (eVar 15) aNil))))) aNil))))) (tN 7) b_law_k51_1)
  (sSeq (sSet 8 (eMake "Site" F_Site_init (aCons (eTup (aCons (eOp opAdd (eVar 12) (eC (.int 1))) (aCons (eVar 13) (aCons (eVar 14) (aCons (eVar 15) aNil))))) aNil)))
  (sSeq (sFor (srcV (eNew (fLst (aCons (eMake "Site" F_Site_init (aCons (eTup (aCons (eOp opAdd (eVar 12) (eC (.int 1))) (aCons (eVar 12) (aCons (eVar 14) (aCons (eVar 15) aNil))))) aNil)) (aCons (eMake "Site" F_Site_init (aCons (eTup (aCons (eOp opAdd (eVar 12) (eC (.int 1))) (aCons (eVar 13) (aCons (eVar 12) (aCons (eVar 15) aNil))))) aNil)) aNil))))) (tN 9) b_law_k51_2)
  (sSeq (sSet 10 (eMake "Site" F_Site_init (aCons (eVar 4) aNil)))
  (sSeq (sSet 11 (eDat (fLst (aCons (eVar 4) (aCons (eC .none) (aCons (eC (.int 0)) (aCons (eTup aNil) (aCons (eDat (fCallB cList (aCons (eVar 15) aNil))) aNil))))))))
  (sIf (tVal (eOp opNe (eDat (fComp (srcV (eVar 11)) (tN 17) (tVal (eOp opNe (eCallB cRepr (aCons (eDat (fLst (aCons (eEqO false "Site" F_Site_eq (eVar 10) (eVar 17)) (aCons (eEqO true "Site" F_Site_eq (eVar 10) (eVar 17)) aNil)))) aNil)) (eC (.str "[False, True]")))) (eVar 17) [17])) (eDat (fLst aNil)))) (sRet (eC (.bool false))) sNil))))))))))))
noncomputable def b_law_k51 : SFn :=
  (sSeq (sFor (srcR1 (aCons (eCallB cMax2 (aCons (eC (.int 2)) (aCons (eCallB cMin2 (aCons (eCallB cLen (aCons (eVar 0) aNil)) (aCons (eC (.int 8)) aNil))) aNil))) aNil)) (tN 1) b_law_k51_3)
  (sRet (eC (.bool true))))
noncomputable def F_law_k51 : Fn := mkFn 1 18 b_law_k51
end L2.HW
set_option maxHeartbeats 0
namespace L2.HW.R_k51
open PySem PySem.Spec PyProof.Rows L2.HW
variable {P : Program} {w : World} {K : PySem.W.Frag} {mg : Str → Option Value} {base : Heap}
abbrev N__law_mixed : List Str := ["_law_cell", "_law_k", "_law_number"]
abbrev p__law_mixed : List Str := ["_law_cell", "_law_k"]
theorem sc__law_mixed : FnScope N__law_mixed p__law_mixed (defScope (top 17)) := ⟨rfl, rfl, rfl, by decide +kernel, rfl, by decide +kernel, by decide +kernel⟩
theorem bi__law_mixed : BindE "_law_mixed" (top 17) p__law_mixed := fun _ _ _ _ _ _ us hl => match us, hl with | [_, _], _ => rfl
abbrev N__law_pile : List Str := ["_law_script", "_law_k", "_law_cell", "_law_found", "_law_j"]
abbrev p__law_pile : List Str := ["_law_script", "_law_k"]
theorem sc__law_pile : FnScope N__law_pile p__law_pile (defScope (top 18)) := ⟨rfl, rfl, rfl, by decide +kernel, rfl, by decide +kernel, by decide +kernel⟩
theorem bi__law_pile : BindE "_law_pile" (top 18) p__law_pile := fun _ _ _ _ _ _ us hl => match us, hl with | [_, _], _ => rfl
abbrev N__law_take : List Str := ["_law_pile_here", "_law_size", "_law_digit"]
abbrev p__law_take : List Str := ["_law_pile_here", "_law_size"]
theorem sc__law_take : FnScope N__law_take p__law_take (defScope (top 19)) := ⟨rfl, rfl, rfl, by decide +kernel, rfl, by decide +kernel, by decide +kernel⟩
theorem bi__law_take : BindE "_law_take" (top 19) p__law_take := fun _ _ _ _ _ _ us hl => match us, hl with | [_, _], _ => rfl
abbrev N__law_roads : List Str := ["_law_pile_here", "_law_many", "_law_end", "_law_count", "_law_roads_here", "_law_r", "_law_u", "_law_v"]
abbrev p__law_roads : List Str := ["_law_pile_here", "_law_many", "_law_end", "_law_count"]
theorem sc__law_roads : FnScope N__law_roads p__law_roads (defScope (top 20)) := ⟨rfl, rfl, rfl, by decide +kernel, rfl, by decide +kernel, by decide +kernel⟩
theorem bi__law_roads : BindE "_law_roads" (top 20) p__law_roads := fun _ _ _ _ _ _ us hl => match us, hl with | [_, _, _, _], _ => rfl
abbrev N__law_web : List Str := ["_law_pile_here", "_law_top", "_law_many", "_law_end", "_law_begin"]
abbrev p__law_web : List Str := ["_law_pile_here", "_law_top"]
theorem sc__law_web : FnScope N__law_web p__law_web (defScope (top 21)) := ⟨rfl, rfl, rfl, by decide +kernel, rfl, by decide +kernel, by decide +kernel⟩
theorem bi__law_web : BindE "_law_web" (top 21) p__law_web := fun _ _ _ _ _ _ us hl => match us, hl with | [_, _], _ => rfl
abbrev N_is_whole : List Str := ["thing"]
abbrev p_is_whole : List Str := ["thing"]
theorem sc_is_whole : FnScope N_is_whole p_is_whole (defScope (top 8)) := ⟨rfl, rfl, rfl, by decide +kernel, rfl, by decide +kernel, by decide +kernel⟩
theorem bi_is_whole : BindE "is_whole" (top 8) p_is_whole := fun _ _ _ _ _ _ us hl => match us, hl with | [_], _ => rfl
abbrev N_is_place : List Str := ["many", "thing"]
abbrev p_is_place : List Str := ["many", "thing"]
theorem sc_is_place : FnScope N_is_place p_is_place (defScope (top 10)) := ⟨rfl, rfl, rfl, by decide +kernel, rfl, by decide +kernel, by decide +kernel⟩
theorem bi_is_place : BindE "is_place" (top 10) p_is_place := fun _ _ _ _ _ _ us hl => match us, hl with | [_, _], _ => rfl
abbrev N_is_more : List Str := ["thing"]
abbrev p_is_more : List Str := ["thing"]
theorem sc_is_more : FnScope N_is_more p_is_more (defScope (top 9)) := ⟨rfl, rfl, rfl, by decide +kernel, rfl, by decide +kernel, by decide +kernel⟩
theorem bi_is_more : BindE "is_more" (top 9) p_is_more := fun _ _ _ _ _ _ us hl => match us, hl with | [_], _ => rfl
abbrev N_is_road : List Str := ["many", "end", "thing", "u", "v", "length", "width"]
abbrev p_is_road : List Str := ["many", "end", "thing"]
theorem sc_is_road : FnScope N_is_road p_is_road (defScope (top 11)) := ⟨rfl, rfl, rfl, by decide +kernel, rfl, by decide +kernel, by decide +kernel⟩
theorem bi_is_road : BindE "is_road" (top 11) p_is_road := fun _ _ _ _ _ _ us hl => match us, hl with | [_, _, _], _ => rfl
abbrev N_is_right_web : List Str := ["thing", "many", "begin", "end", "roads", "road"]
abbrev p_is_right_web : List Str := ["thing"]
theorem sc_is_right_web : FnScope N_is_right_web p_is_right_web (defScope (top 12)) := ⟨rfl, rfl, rfl, by decide +kernel, rfl, by decide +kernel, by decide +kernel⟩
theorem bi_is_right_web : BindE "is_right_web" (top 12) p_is_right_web := fun _ _ _ _ _ _ us hl => match us, hl with | [_], _ => rfl
abbrev N_look_at_web : List Str := ["web"]
abbrev p_look_at_web : List Str := ["web"]
theorem sc_look_at_web : FnScope N_look_at_web p_look_at_web (defScope (top 13)) := ⟨rfl, rfl, rfl, by decide +kernel, rfl, by decide +kernel, by decide +kernel⟩
theorem bi_look_at_web : BindE "look_at_web" (top 13) p_look_at_web := fun _ _ _ _ _ _ us hl => match us, hl with | [_], _ => rfl
abbrev N_Site_init : List Str := ["self", "web", "roads"]
abbrev p_Site_init : List Str := ["self", "web"]
theorem sc_Site_init : FnScope N_Site_init p_Site_init (defScope st_Site_init) := ⟨rfl, rfl, rfl, by decide +kernel, rfl, by decide +kernel, by decide +kernel⟩
theorem bi_Site_init : BindM "__init__" "Site.__init__" st_Site_init p_Site_init := fun _ _ _ _ _ _ us hl => match us, hl with | [_, _], _ => rfl
abbrev N_Site_web : List Str := ["self"]
abbrev p_Site_web : List Str := ["self"]
theorem sc_Site_web : FnScope N_Site_web p_Site_web (defScope st_Site_web) := ⟨rfl, rfl, rfl, by decide +kernel, rfl, by decide +kernel, by decide +kernel⟩
theorem bi_Site_web : BindM "web" "Site.web" st_Site_web p_Site_web := fun _ _ _ _ _ _ us hl => match us, hl with | [_], _ => rfl
abbrev N_Site_eq : List Str := ["self", "other"]
abbrev p_Site_eq : List Str := ["self", "other"]
theorem sc_Site_eq : FnScope N_Site_eq p_Site_eq (defScope st_Site_eq) := ⟨rfl, rfl, rfl, by decide +kernel, rfl, by decide +kernel, by decide +kernel⟩
theorem bi_Site_eq : BindM "__eq__" "Site.__eq__" st_Site_eq p_Site_eq := fun _ _ _ _ _ _ us hl => match us, hl with | [_, _], _ => rfl
abbrev N__law_pair_good : List Str := ["_law_one", "_law_other", "_law_due", "_law_told", "_law_truth"]
abbrev p__law_pair_good : List Str := ["_law_one", "_law_other", "_law_due"]
theorem sc__law_pair_good : FnScope N__law_pair_good p__law_pair_good (defScope (top 22)) := ⟨rfl, rfl, rfl, by decide +kernel, rfl, by decide +kernel, by decide +kernel⟩
theorem bi__law_pair_good : BindE "_law_pair_good" (top 22) p__law_pair_good := fun _ _ _ _ _ _ us hl => match us, hl with | [_, _, _], _ => rfl
abbrev N_Site_len : List Str := ["self"]
abbrev p_Site_len : List Str := ["self"]
theorem sc_Site_len : FnScope N_Site_len p_Site_len (defScope st_Site_len) := ⟨rfl, rfl, rfl, by decide +kernel, rfl, by decide +kernel, by decide +kernel⟩
theorem bi_Site_len : BindM "__len__" "Site.__len__" st_Site_len p_Site_len := fun _ _ _ _ _ _ us hl => match us, hl with | [_], _ => rfl
abbrev N_Site_look_at_new : List Str := ["self", "road"]
abbrev p_Site_look_at_new : List Str := ["self", "road"]
theorem sc_Site_look_at_new : FnScope N_Site_look_at_new p_Site_look_at_new (defScope st_Site_look_at_new) := ⟨rfl, rfl, rfl, by decide +kernel, rfl, by decide +kernel, by decide +kernel⟩
theorem bi_Site_look_at_new : BindM "look_at_new" "Site.look_at_new" st_Site_look_at_new p_Site_look_at_new := fun _ _ _ _ _ _ us hl => match us, hl with | [_, _], _ => rfl
abbrev N_Site_take : List Str := ["self", "roads"]
abbrev p_Site_take : List Str := ["self", "roads"]
theorem sc_Site_take : FnScope N_Site_take p_Site_take (defScope st_Site_take) := ⟨rfl, rfl, rfl, by decide +kernel, rfl, by decide +kernel, by decide +kernel⟩
theorem bi_Site_take : BindM "take" "Site.take" st_Site_take p_Site_take := fun _ _ _ _ _ _ us hl => match us, hl with | [_, _], _ => rfl
abbrev N_Site_put : List Str := ["self", "u", "v", "length", "width"]
abbrev p_Site_put : List Str := ["self", "u", "v", "length", "width"]
theorem sc_Site_put : FnScope N_Site_put p_Site_put (defScope st_Site_put) := ⟨rfl, rfl, rfl, by decide +kernel, rfl, by decide +kernel, by decide +kernel⟩
theorem bi_Site_put : BindM "put" "Site.put" st_Site_put p_Site_put := fun _ _ _ _ _ _ us hl => match us, hl with | [_, _, _, _, _], _ => rfl
abbrev N_Site_look_at_place : List Str := ["self", "r"]
abbrev p_Site_look_at_place : List Str := ["self", "r"]
theorem sc_Site_look_at_place : FnScope N_Site_look_at_place p_Site_look_at_place (defScope st_Site_look_at_place) := ⟨rfl, rfl, rfl, by decide +kernel, rfl, by decide +kernel, by decide +kernel⟩
theorem bi_Site_look_at_place : BindM "look_at_place" "Site.look_at_place" st_Site_look_at_place p_Site_look_at_place := fun _ _ _ _ _ _ us hl => match us, hl with | [_, _], _ => rfl
abbrev N_Site_drop : List Str := ["self", "r"]
abbrev p_Site_drop : List Str := ["self", "r"]
theorem sc_Site_drop : FnScope N_Site_drop p_Site_drop (defScope st_Site_drop) := ⟨rfl, rfl, rfl, by decide +kernel, rfl, by decide +kernel, by decide +kernel⟩
theorem bi_Site_drop : BindM "drop" "Site.drop" st_Site_drop p_Site_drop := fun _ _ _ _ _ _ us hl => match us, hl with | [_, _], _ => rfl
abbrev N_Site_turn : List Str := ["self", "r", "length", "width", "road"]
abbrev p_Site_turn : List Str := ["self", "r", "length", "width"]
theorem sc_Site_turn : FnScope N_Site_turn p_Site_turn (defScope st_Site_turn) := ⟨rfl, rfl, rfl, by decide +kernel, rfl, by decide +kernel, by decide +kernel⟩
theorem bi_Site_turn : BindM "turn" "Site.turn" st_Site_turn p_Site_turn := fun _ _ _ _ _ _ us hl => match us, hl with | [_, _, _, _], _ => rfl
abbrev N__law_deed : List Str := ["_law_site", "_law_way", "_law_road"]
abbrev p__law_deed : List Str := ["_law_site", "_law_way", "_law_road"]
theorem sc__law_deed : FnScope N__law_deed p__law_deed (defScope (top 23)) := ⟨rfl, rfl, rfl, by decide +kernel, rfl, by decide +kernel, by decide +kernel⟩
theorem bi__law_deed : BindE "_law_deed" (top 23) p__law_deed := fun _ _ _ _ _ _ us hl => match us, hl with | [_, _, _], _ => rfl
abbrev N_Site_back : List Str := ["self"]
abbrev p_Site_back : List Str := ["self"]
theorem sc_Site_back : FnScope N_Site_back p_Site_back (defScope st_Site_back) := ⟨rfl, rfl, rfl, by decide +kernel, rfl, by decide +kernel, by decide +kernel⟩
theorem bi_Site_back : BindM "back" "Site.back" st_Site_back p_Site_back := fun _ _ _ _ _ _ us hl => match us, hl with | [_], _ => rfl
abbrev N__law_good : List Str := ["_law_some", "_law_more", "_law_road", "_law_way", "_law_due", "_law_one", "_law_other", "_law_first", "_law_second", "_law_kept", "_law_before", "_law_size"]
abbrev p__law_good : List Str := ["_law_some", "_law_more", "_law_road"]
theorem sc__law_good : FnScope N__law_good p__law_good (defScope (top 24)) := ⟨rfl, rfl, rfl, by decide +kernel, rfl, by decide +kernel, by decide +kernel⟩
theorem bi__law_good : BindE "_law_good" (top 24) p__law_good := fun _ _ _ _ _ _ us hl => match us, hl with | [_, _, _], _ => rfl
abbrev N_Site_ior : List Str := ["self", "other"]
abbrev p_Site_ior : List Str := ["self", "other"]
theorem sc_Site_ior : FnScope N_Site_ior p_Site_ior (defScope st_Site_ior) := ⟨rfl, rfl, rfl, by decide +kernel, rfl, by decide +kernel, by decide +kernel⟩
theorem bi_Site_ior : BindM "__ior__" "Site.__ior__" st_Site_ior p_Site_ior := fun _ _ _ _ _ _ us hl => match us, hl with | [_, _], _ => rfl
abbrev N__law_joined_good : List Str := ["_law_some", "_law_more", "_law_road", "_law_one", "_law_other", "_law_kept", "_law_same", "_law_told", "_law_turn"]
abbrev p__law_joined_good : List Str := ["_law_some", "_law_more", "_law_road"]
theorem sc__law_joined_good : FnScope N__law_joined_good p__law_joined_good (defScope (top 25)) := ⟨rfl, rfl, rfl, by decide +kernel, rfl, by decide +kernel, by decide +kernel⟩
theorem bi__law_joined_good : BindE "_law_joined_good" (top 25) p__law_joined_good := fun _ _ _ _ _ _ us hl => match us, hl with | [_, _, _], _ => rfl
abbrev N_law : List Str := ["_law_script", "_law_k", "_law_pile_here", "_law_road", "_law_some", "_law_others", "_law_place", "_law_more", "_law_wide", "_law_other", "_law_site", "_law_odd", "_law_many", "_law_begin", "_law_end", "_law_roads_here", "_law_one", "_law_thing"]
abbrev p_law : List Str := ["_law_script"]
theorem sc_law : FnScope N_law p_law (defScope (top 26)) := ⟨rfl, rfl, rfl, by decide +kernel, rfl, by decide +kernel, by decide +kernel⟩
theorem bi_law : BindE "law" (top 26) p_law := fun _ _ _ _ _ _ us hl => match us, hl with | [_], _ => rfl
theorem H__law_mixed (D : Def K mg "_law_mixed" (top 17)) (m_int : mg "int" = none) : Has P w K mg base "_law_mixed" p__law_mixed 1 F_l_mixed :=
  has_of (k := 0) D bi__law_mixed (N := N__law_mixed) sc__law_mixed rfl (by decide) fun f cdv A outer s H E c =>
  (sb_cons (z_set c.toCtx 2 (w_mod (w_int m_int (sa_cons (w_add (w_add (w_mul (w_mod (w_int m_int (sa_cons (w_v 0) sa_nil)) se_int) se_int) (w_mul (w_v 1) se_int)) se_int) sa_nil)) se_int))
  (sb_cons (z_set c.toCtx 2 (w_mod (w_int m_int (sa_cons (w_mul (w_v 2) (w_v 2)) sa_nil)) se_int))
  (sb_one (ss_ret (w_mod (w_int m_int (sa_cons (w_mul (w_v 2) (w_add (w_v 2) se_int)) sa_nil)) se_int)))))
theorem H__law_pile (D : Def K mg "_law_pile" (top 18)) (m_int : mg "int" = none) (m_len : mg "len" = none) (m_range : mg "range" = none) (H__law_mixed : Has P w K mg base "_law_mixed" p__law_mixed 1 F_l_mixed) : HasF P w K mg base "_law_pile" p__law_pile 2 F_l_pile :=
  hasF_of (k := 1) D bi__law_pile (N := N__law_pile) sc__law_pile rfl (by decide) fun f cdv A outer s H E c =>
  (sb_cons (z_set c.toCtx 2 se_int)
  (sb_cons (ss_if (t_lt c.toCtx (w_v 1) (w_len m_len (sa_cons (w_v 0) sa_nil))) (sb_one (z_set c.toCtx 2 (w_ix c.toCtx (w_v 0) (w_v 1)))) sb_nil)
  (sb_cons (ss_if (t_ge c.toCtx (w_v 2) (w_pow se_int se_int)) (sb_one (ss_retF (sf_lst (sa_cons (w_mod (w_int m_int (sa_cons (w_sub (w_v 2) (w_pow se_int se_int)) sa_nil)) (w_mul (w_mul (w_mul (w_pow se_int se_int) (w_pow se_int se_int)) (w_pow se_int se_int)) (w_pow se_int se_int))) sa_nil)))) sb_nil)
  (sb_cons (z_set c.toCtx 3 se_int)
  (sb_cons (z_for c (si_r1 rfl m_range (sa_cons se_int sa_nil)) (g_name c.toCtx 4) (sb_one (z_set c.toCtx 3 (w_add (w_mul (w_v 3) se_int) (w_call c.toCtx (H__law_mixed) (sa_cons (w_v 2) (sa_cons (w_add (w_add (w_mul se_int (w_v 1)) (w_mul se_int (w_v 4))) (w_mul (w_v 4) (w_v 4))) sa_nil)) )))))
  (sb_one (ss_retF (sf_lst (sa_cons (w_v 3) sa_nil)))))))))
theorem H__law_take (D : Def K mg "_law_take" (top 19)) (m_int : mg "int" = none) : Has P w K mg base "_law_take" p__law_take 1 F_l_take :=
  has_of (k := 0) D bi__law_take (N := N__law_take) sc__law_take rfl (by decide) fun f cdv A outer s H E c =>
  (sb_cons (z_set c.toCtx 2 (w_mod (w_int m_int (sa_cons (w_ix c.toCtx (w_v 0) se_int) sa_nil)) (w_v 1)))
  (sb_cons (ss_asg (w_div (w_ix c.toCtx (w_v 0) se_int) (w_v 1)) (sg_ix c.toCtx.u1 (w_v 0) se_int))
  (sb_one (ss_ret (w_v 2)))))
theorem H__law_roads (D : Def K mg "_law_roads" (top 20)) (m_range : mg "range" = none) (m_tuple : mg "tuple" = none) (H__law_take : Has P w K mg base "_law_take" p__law_take 1 F_l_take) : Has P w K mg base "_law_roads" p__law_roads 2 F_l_roads :=
  has_of (k := 1) D bi__law_roads (N := N__law_roads) sc__law_roads rfl (by decide) fun f cdv A outer s H E c =>
  (sb_cons (z_set c.toCtx 4 (se_new (sf_lst sa_nil)))
  (sb_cons (z_for c (si_r1 rfl m_range (sa_cons (w_v 3) sa_nil)) (g_name c.toCtx 5) (sb_cons (z_set c.toCtx 6 (w_call c.toCtx (H__law_take) (sa_cons (w_v 0) (sa_cons (w_sub (w_v 1) se_int) sa_nil)) ))
  (sb_cons (ss_if (t_ge c.toCtx (w_v 6) (w_v 2)) (sb_one (z_set c.toCtx 6 (w_add (w_v 6) se_int))) sb_nil)
  (sb_cons (z_set c.toCtx 7 (w_call c.toCtx (H__law_take) (sa_cons (w_v 0) (sa_cons (w_sub (w_v 1) se_int) sa_nil)) ))
  (sb_cons (ss_if (t_ge c.toCtx (w_v 7) (w_v 6)) (sb_one (z_set c.toCtx 7 (w_add (w_v 7) se_int))) sb_nil)
  (sb_one (ss_expr (se_append (w_v 4) (sa_cons (se_tup (sa_cons (w_v 6) (sa_cons (w_v 7) (sa_cons (w_add se_int (w_ix c.toCtx (se_dat (sf_lst (sa_cons se_int (sa_cons se_int (sa_cons se_int (sa_cons se_int (sa_cons se_int sa_nil))))))) (w_call c.toCtx (H__law_take) (sa_cons (w_v 0) (sa_cons se_int sa_nil)) ))) (sa_cons (w_add se_int (w_call c.toCtx (H__law_take) (sa_cons (w_v 0) (sa_cons se_int sa_nil)) )) sa_nil))))) sa_nil)))))))))
  (sb_one (ss_ret (w_tuple m_tuple (sa_cons (w_v 4) sa_nil))))))
theorem H__law_web (D : Def K mg "_law_web" (top 21)) (m_int : mg "int" = none) (H__law_take : Has P w K mg base "_law_take" p__law_take 1 F_l_take) (H__law_roads : Has P w K mg base "_law_roads" p__law_roads 2 F_l_roads) : Has P w K mg base "_law_web" p__law_web 3 F_l_web :=
  has_of (k := 2) D bi__law_web (N := N__law_web) sc__law_web rfl (by decide) fun f cdv A outer s H E c =>
  (sb_cons (z_set c.toCtx 2 (w_add se_int (w_call c.toCtx (H__law_take) (sa_cons (w_v 0) (sa_cons (w_sub (w_v 1) se_int) sa_nil)) )))
  (sb_cons (z_set c.toCtx 3 (w_call c.toCtx (H__law_take) (sa_cons (w_v 0) (sa_cons (w_v 2) sa_nil)) ))
  (sb_cons (z_set c.toCtx 4 (w_mod (w_int m_int (sa_cons (w_add (w_add (w_v 3) se_int) (w_call c.toCtx (H__law_take) (sa_cons (w_v 0) (sa_cons (w_sub (w_v 2) se_int) sa_nil)) )) sa_nil)) (w_v 2)))
  (sb_one (ss_ret (se_tup (sa_cons (w_v 2) (sa_cons (w_v 4) (sa_cons (w_v 3) (sa_cons (w_call c.toCtx (H__law_roads) (sa_cons (w_v 0) (sa_cons (w_v 2) (sa_cons (w_v 3) (sa_cons (w_call c.toCtx (H__law_take) (sa_cons (w_v 0) (sa_cons (w_add (w_mul se_int (w_v 2)) se_int) sa_nil)) ) sa_nil)))) ) sa_nil))))))))))
theorem H_is_whole (D : Def K mg "is_whole" (top 8)) (m_bool : mg "bool" = none) (m_int : mg "int" = none) (m_isinstance : mg "isinstance" = none) : Has P w K mg base "is_whole" p_is_whole 1 F_is_whole :=
  has_of (k := 0) D bi_is_whole (N := N_is_whole) sc_is_whole rfl (by decide) fun f cdv A outer s H E c =>
  (sb_one (ss_ret (se_and (se_isi rfl m_isinstance rfl m_int rfl kit_int (w_v 0)) (se_and (se_not (se_isi rfl m_isinstance rfl m_bool rfl kit_bool (w_v 0))) (se_one (w_ge c.toCtx (w_v 0) se_int))))))
theorem H_is_place (D : Def K mg "is_place" (top 10)) (H_is_whole : Has P w K mg base "is_whole" p_is_whole 1 F_is_whole) : Has P w K mg base "is_place" p_is_place 2 F_is_place :=
  has_of (k := 1) D bi_is_place (N := N_is_place) sc_is_place rfl (by decide) fun f cdv A outer s H E c =>
  (sb_one (ss_ret (se_and (w_call c.toCtx (H_is_whole) (sa_cons (w_v 1) sa_nil) ) (se_one (w_lt c.toCtx (w_v 1) (w_v 0))))))
theorem H_is_more (D : Def K mg "is_more" (top 9)) (H_is_whole : Has P w K mg base "is_whole" p_is_whole 1 F_is_whole) : Has P w K mg base "is_more" p_is_more 2 F_is_more :=
  has_of (k := 1) D bi_is_more (N := N_is_more) sc_is_more rfl (by decide) fun f cdv A outer s H E c =>
  (sb_one (ss_ret (se_and (w_call c.toCtx (H_is_whole) (sa_cons (w_v 0) sa_nil) ) (se_one (w_gt c.toCtx (w_v 0) se_int)))))
theorem H_is_road (D : Def K mg "is_road" (top 11)) (m_isinstance : mg "isinstance" = none) (m_len : mg "len" = none) (m_tuple : mg "tuple" = none) (H_is_place : Has P w K mg base "is_place" p_is_place 2 F_is_place) (H_is_more : Has P w K mg base "is_more" p_is_more 2 F_is_more) : Has P w K mg base "is_road" p_is_road 3 F_is_road :=
  has_of (k := 2) D bi_is_road (N := N_is_road) sc_is_road rfl (by decide) fun f cdv A outer s H E c =>
  (sb_cons (ss_if (st_w (sw_or (st_not (st_val (se_isi rfl m_isinstance rfl m_tuple rfl kit_tuple (w_v 2)))) (sw_or1 (t_ne c.toCtx (w_len m_len (sa_cons (w_v 2) sa_nil)) se_int)))) (sb_one (ss_ret se_bl)) sb_nil)
  (sb_cons (ss_asg (w_v 2) (sg_tup c.toCtx.cm (sgs_cons (g_name c.toCtx 3) (sgs_cons (g_name c.toCtx 4) (sgs_cons (g_name c.toCtx 5) (sgs_cons (g_name c.toCtx 6) sgs_nil))))))
  (sb_cons (ss_if (st_w (sw_or (st_not (st_val (w_call c.toCtx (H_is_place) (sa_cons (w_v 0) (sa_cons (w_v 3) sa_nil)) ))) (sw_or (st_not (st_val (w_call c.toCtx (H_is_place) (sa_cons (w_v 0) (sa_cons (w_v 4) sa_nil)) ))) (sw_or (t_eq c.toCtx (w_v 3) (w_v 4)) (sw_or1 (t_eq c.toCtx (w_v 3) (w_v 1))))))) (sb_one (ss_ret se_bl)) sb_nil)
  (sb_one (ss_ret (se_and (w_call c.toCtx (H_is_more) (sa_cons (w_v 5) sa_nil) ) (se_one (w_call c.toCtx (H_is_more) (sa_cons (w_v 6) sa_nil) ))))))))
theorem H_is_right_web (D : Def K mg "is_right_web" (top 12)) (m_all : mg "all" = none) (m_isinstance : mg "isinstance" = none) (m_len : mg "len" = none) (m_tuple : mg "tuple" = none) (H_is_whole : Has P w K mg base "is_whole" p_is_whole 1 F_is_whole) (H_is_place : Has P w K mg base "is_place" p_is_place 2 F_is_place) (H_is_road : Has P w K mg base "is_road" p_is_road 3 F_is_road) : Has P w K mg base "is_right_web" p_is_right_web 4 F_is_right_web :=
  has_of (k := 3) D bi_is_right_web (N := N_is_right_web) sc_is_right_web rfl (by decide) fun f cdv A outer s H E c =>
  (sb_cons (ss_if (st_w (sw_or (st_not (st_val (se_isi rfl m_isinstance rfl m_tuple rfl kit_tuple (w_v 0)))) (sw_or (t_ne c.toCtx (w_len m_len (sa_cons (w_v 0) sa_nil)) se_int) (sw_or (st_not (st_val (w_call c.toCtx (H_is_whole) (sa_cons (w_ix c.toCtx (w_v 0) se_int) sa_nil) ))) (sw_or1 (t_lt c.toCtx (w_ix c.toCtx (w_v 0) se_int) se_int)))))) (sb_one (ss_ret se_bl)) sb_nil)
  (sb_cons (ss_asg (w_v 0) (sg_tup c.toCtx.cm (sgs_cons (g_name c.toCtx 1) (sgs_cons (g_name c.toCtx 2) (sgs_cons (g_name c.toCtx 3) (sgs_cons (g_name c.toCtx 4) sgs_nil))))))
  (sb_cons (ss_if (st_w (sw_or (st_not (st_val (w_call c.toCtx (H_is_place) (sa_cons (w_v 1) (sa_cons (w_v 2) sa_nil)) ))) (sw_or (st_not (st_val (w_call c.toCtx (H_is_place) (sa_cons (w_v 1) (sa_cons (w_v 3) sa_nil)) ))) (sw_or (t_eq c.toCtx (w_v 2) (w_v 3)) (sw_or1 (st_not (st_val (se_isi rfl m_isinstance rfl m_tuple rfl kit_tuple (w_v 4))))))))) (sb_one (ss_ret se_bl)) sb_nil)
  (sb_one (ss_ret (w_all c.toCtx m_all (sa_cons (se_dat (sf_comp c.toCtx.cm c.toCtx.nd (own := [("road", 5)]) (si_v (w_v 4)) (blkOk_by (by rfl)) (by decide) (fun s1 Z1 D1 l1 p1 => (g_name (Ctx.bk c.toCtx s1 Z1 _ _ p1) 5)) (fun s1 Z1 D1 l1 p1 => sts_nil) (fun s1 Z1 D1 l1 p1 => (w_call (Ctx.bk c.toCtx s1 Z1 _ _ p1) (H_is_road) (sa_cons (w_v 1) (sa_cons (w_v 3) (sa_cons (w_v 5) sa_nil))) )))) sa_nil)))))))
theorem H_look_at_web (D : Def K mg "look_at_web" (top 13)) (E_NoWeb : ExcF K mg "NoWeb") (H_is_right_web : Has P w K mg base "is_right_web" p_is_right_web 4 F_is_right_web) : Has P w K mg base "look_at_web" p_look_at_web 5 F_look_at_web :=
  has_of (k := 4) D bi_look_at_web (N := N_look_at_web) sc_look_at_web rfl (by decide) fun f cdv A outer s H E c =>
  (sb_one (ss_if (st_not (st_val (w_call c.toCtx (H_is_right_web) (sa_cons (w_v 0) sa_nil) ))) (sb_one (ss_raise c.toCtx E_NoWeb)) sb_nil))
theorem H_Site_init (D : DefI K mg "Site" "Site.__init__" st_Site_init) (m_list : mg "list" = none) (FD_Site_begin : FldF K mg "Site" "begin") (FD_Site_end : FldF K mg "Site" "end") (FD_Site_many : FldF K mg "Site" "many") (FD_Site_past : FldF K mg "Site" "past") (FD_Site_roads : FldF K mg "Site" "roads") (H_look_at_web : Has P w K mg base "look_at_web" p_look_at_web 5 F_look_at_web) : HasI P w K mg base "Site" p_Site_init 6 F_Site_init :=
  hasI_of (k := 5) D bi_Site_init (N := N_Site_init) sc_Site_init rfl (by decide) fun f cdv A outer s H E c =>
  (sb_cons (ss_expr (w_call c.toCtx (H_look_at_web) (sa_cons (w_v 1) sa_nil) ))
  (sb_cons (ss_asg (w_v 1) (sg_tup c.toCtx.cm (sgs_cons (sg_fldT FD_Site_many (w_v 0)) (sgs_cons (sg_fldT FD_Site_begin (w_v 0)) (sgs_cons (sg_fldT FD_Site_end (w_v 0)) (sgs_cons (g_name c.toCtx 2) sgs_nil))))))
  (sb_cons (ss_fld FD_Site_roads (w_v 0) (se_dat (w_list m_list (sa_cons (w_v 2) sa_nil))))
  (sb_one (ss_fld FD_Site_past (w_v 0) (se_new (sf_lst sa_nil)))))))
theorem H_Site_web (D : DefM' K mg "Site" "web" "Site.web" st_Site_web) (m_tuple : mg "tuple" = none) (FD_Site_begin : FldF K mg "Site" "begin") (FD_Site_end : FldF K mg "Site" "end") (FD_Site_many : FldF K mg "Site" "many") (FD_Site_roads : FldF K mg "Site" "roads") : HasM P w K mg base "Site" "web" p_Site_web 1 F_Site_web :=
  hasM_of (k := 0) D bi_Site_web (N := N_Site_web) sc_Site_web rfl (by decide) fun f cdv A outer s H E c =>
  (sb_one (ss_ret (se_tup (sa_cons (se_fld FD_Site_many (w_v 0)) (sa_cons (se_fld FD_Site_begin (w_v 0)) (sa_cons (se_fld FD_Site_end (w_v 0)) (sa_cons (w_tuple m_tuple (sa_cons (se_fld FD_Site_roads (w_v 0)) sa_nil)) sa_nil)))))))
theorem H_Site_eq (D : DefM' K mg "Site" "__eq__" "Site.__eq__" st_Site_eq) (m_isinstance : mg "isinstance" = none) (OW : IsC K mg "Site") (H_Site_web : HasM P w K mg base "Site" "web" p_Site_web 1 F_Site_web) : HasS P w K mg base "Site" "__eq__" p_Site_eq 2 F_Site_eq :=
  hasS_of (k := 1) D bi_Site_eq (N := N_Site_eq) sc_Site_eq rfl (by decide) fun f cdv A outer s H E c =>
  (sb_one (ss_ret (se_and (se_isO OW rfl m_isinstance (w_v 1)) (se_one (w_eq c.toCtx (w_meth0 c.toCtx (H_Site_web) (w_v 0) ) (w_meth0 c.toCtx (H_Site_web) (w_v 1) ))))))
theorem H__law_pair_good (D : Def K mg "_law_pair_good" (top 22)) (m_bool : mg "bool" = none) (m_isinstance : mg "isinstance" = none) (OW : IsC K mg "Site") (NE : NeC K mg "Site") (H_Site_eq : HasS P w K mg base "Site" "__eq__" p_Site_eq 2 F_Site_eq) : Has P w K mg base "_law_pair_good" p__law_pair_good 4 F_l_pair_good_v2 :=
  has_of (k := 3) D bi__law_pair_good (N := N__law_pair_good) sc__law_pair_good rfl (by decide) fun f cdv A outer s H E c =>
  (sb_cons (z_set c.toCtx 3 (se_dat (sf_lst (sa_cons (w_eqO c.toCtx OW (H_Site_eq) (w_v 0) (w_v 1) ) (sa_cons (w_eqO c.toCtx OW (H_Site_eq) (w_v 1) (w_v 0) ) (sa_cons (w_eqO c.toCtx OW (H_Site_eq) (w_v 0) (w_v 0) ) (sa_cons (w_neO c.toCtx OW NE (H_Site_eq) (w_v 0) (w_v 1) ) (sa_cons (w_neO c.toCtx OW NE (H_Site_eq) (w_v 1) (w_v 0) ) sa_nil))))))))
  (sb_cons (ss_if (t_ne c.toCtx (se_dat (sf_comp c.toCtx.cm c.toCtx.nd (own := [("_law_truth", 4)]) (si_v (w_v 3)) (blkOk_by (by rfl)) (by decide) (fun s1 Z1 D1 l1 p1 => (g_name (Ctx.bk c.toCtx s1 Z1 _ _ p1) 4)) (fun s1 Z1 D1 l1 p1 => (sts_one (st_not (st_val (se_isi rfl m_isinstance rfl m_bool rfl kit_bool (w_v 4)))))) (fun s1 Z1 D1 l1 p1 => (w_v 4)))) (se_dat (sf_lst sa_nil))) (sb_one (ss_ret se_bl)) sb_nil)
  (sb_one (ss_ret (w_eq c.toCtx (w_v 3) (se_dat (sf_lst (sa_cons (w_v 2) (sa_cons (w_v 2) (sa_cons se_bl (sa_cons (se_not (w_v 2)) (sa_cons (se_not (w_v 2)) sa_nil))))))))))))
theorem H_Site_len (D : DefM' K mg "Site" "__len__" "Site.__len__" st_Site_len) (m_len : mg "len" = none) (FD_Site_roads : FldF K mg "Site" "roads") : HasS P w K mg base "Site" "__len__" p_Site_len 1 F_Site_len :=
  hasS_of (k := 0) D bi_Site_len (N := N_Site_len) sc_Site_len rfl (by decide) fun f cdv A outer s H E c =>
  (sb_one (ss_ret (w_len m_len (sa_cons (se_fld FD_Site_roads (w_v 0)) sa_nil))))
theorem H_Site_look_at_new (D : DefM' K mg "Site" "look_at_new" "Site.look_at_new" st_Site_look_at_new) (E_NotRoad : ExcF K mg "NotRoad") (FD_Site_end : FldF K mg "Site" "end") (FD_Site_many : FldF K mg "Site" "many") (H_is_road : Has P w K mg base "is_road" p_is_road 3 F_is_road) : HasM P w K mg base "Site" "look_at_new" p_Site_look_at_new 4 F_Site_look_at_new :=
  hasM_of (k := 3) D bi_Site_look_at_new (N := N_Site_look_at_new) sc_Site_look_at_new rfl (by decide) fun f cdv A outer s H E c =>
  (sb_one (ss_if (st_not (st_val (w_call c.toCtx (H_is_road) (sa_cons (se_fld FD_Site_many (w_v 0)) (sa_cons (se_fld FD_Site_end (w_v 0)) (sa_cons (w_v 1) sa_nil))) ))) (sb_one (ss_raise c.toCtx E_NotRoad)) sb_nil))
theorem H_Site_take (D : DefM' K mg "Site" "take" "Site.take" st_Site_take) (FD_Site_past : FldF K mg "Site" "past") (FD_Site_roads : FldF K mg "Site" "roads") : HasM P w K mg base "Site" "take" p_Site_take 1 F_Site_take :=
  hasM_of (k := 0) D bi_Site_take (N := N_Site_take) sc_Site_take rfl (by decide) fun f cdv A outer s H E c =>
  (sb_cons (ss_expr (se_append (se_fld FD_Site_past (w_v 0)) (sa_cons (se_fld FD_Site_roads (w_v 0)) sa_nil)))
  (sb_one (ss_fld FD_Site_roads (w_v 0) (w_v 1))))
theorem H_Site_put (D : DefM' K mg "Site" "put" "Site.put" st_Site_put) (m_len : mg "len" = none) (FD_Site_roads : FldF K mg "Site" "roads") (H_Site_look_at_new : HasM P w K mg base "Site" "look_at_new" p_Site_look_at_new 4 F_Site_look_at_new) (H_Site_take : HasM P w K mg base "Site" "take" p_Site_take 1 F_Site_take) : HasM P w K mg base "Site" "put" p_Site_put 5 F_Site_put :=
  hasM_of (k := 4) D bi_Site_put (N := N_Site_put) sc_Site_put rfl (by decide) fun f cdv A outer s H E c =>
  (sb_cons (ss_expr (w_meth c.toCtx (H_Site_look_at_new) (w_v 0) (sa_cons (se_tup (sa_cons (w_v 1) (sa_cons (w_v 2) (sa_cons (w_v 3) (sa_cons (w_v 4) sa_nil))))) sa_nil) ))
  (sb_cons (ss_expr (w_meth c.toCtx (H_Site_take) (w_v 0) (sa_cons (se_dat (sf_lst (sa_star (se_fld FD_Site_roads (w_v 0)) (sa_cons (se_tup (sa_cons (w_v 1) (sa_cons (w_v 2) (sa_cons (w_v 3) (sa_cons (w_v 4) sa_nil))))) sa_nil)))) sa_nil) ))
  (sb_one (ss_ret (w_sub (w_len m_len (sa_cons (se_fld FD_Site_roads (w_v 0)) sa_nil)) se_int)))))
theorem H_Site_look_at_place (D : DefM' K mg "Site" "look_at_place" "Site.look_at_place" st_Site_look_at_place) (m_len : mg "len" = none) (E_NoRoad : ExcF K mg "NoRoad") (FD_Site_roads : FldF K mg "Site" "roads") (H_is_whole : Has P w K mg base "is_whole" p_is_whole 1 F_is_whole) : HasM P w K mg base "Site" "look_at_place" p_Site_look_at_place 2 F_Site_look_at_place :=
  hasM_of (k := 1) D bi_Site_look_at_place (N := N_Site_look_at_place) sc_Site_look_at_place rfl (by decide) fun f cdv A outer s H E c =>
  (sb_one (ss_if (st_w (sw_or (st_not (st_val (w_call c.toCtx (H_is_whole) (sa_cons (w_v 1) sa_nil) ))) (sw_or1 (t_ge c.toCtx (w_v 1) (w_len m_len (sa_cons (se_fld FD_Site_roads (w_v 0)) sa_nil)))))) (sb_one (ss_raise c.toCtx E_NoRoad)) sb_nil))
theorem H_Site_drop (D : DefM' K mg "Site" "drop" "Site.drop" st_Site_drop) (FD_Site_roads : FldF K mg "Site" "roads") (H_Site_look_at_place : HasM P w K mg base "Site" "look_at_place" p_Site_look_at_place 2 F_Site_look_at_place) (H_Site_take : HasM P w K mg base "Site" "take" p_Site_take 1 F_Site_take) : HasM P w K mg base "Site" "drop" p_Site_drop 3 F_Site_drop :=
  hasM_of (k := 2) D bi_Site_drop (N := N_Site_drop) sc_Site_drop rfl (by decide) fun f cdv A outer s H E c =>
  (sb_cons (ss_expr (w_meth c.toCtx (H_Site_look_at_place) (w_v 0) (sa_cons (w_v 1) sa_nil) ))
  (sb_one (ss_expr (w_meth c.toCtx (H_Site_take) (w_v 0) (sa_cons (w_add (se_sl (se_fld FD_Site_roads (w_v 0)) so_none (so_some (w_v 1))) (se_sl (se_fld FD_Site_roads (w_v 0)) (so_some (w_add (w_v 1) se_int)) so_none)) sa_nil) ))))
theorem H_Site_turn (D : DefM' K mg "Site" "turn" "Site.turn" st_Site_turn) (FD_Site_roads : FldF K mg "Site" "roads") (H_Site_look_at_place : HasM P w K mg base "Site" "look_at_place" p_Site_look_at_place 2 F_Site_look_at_place) (H_Site_look_at_new : HasM P w K mg base "Site" "look_at_new" p_Site_look_at_new 4 F_Site_look_at_new) (H_Site_take : HasM P w K mg base "Site" "take" p_Site_take 1 F_Site_take) : HasM P w K mg base "Site" "turn" p_Site_turn 5 F_Site_turn :=
  hasM_of (k := 4) D bi_Site_turn (N := N_Site_turn) sc_Site_turn rfl (by decide) fun f cdv A outer s H E c =>
  (sb_cons (ss_expr (w_meth c.toCtx (H_Site_look_at_place) (w_v 0) (sa_cons (w_v 1) sa_nil) ))
  (sb_cons (z_set c.toCtx 4 (se_tup (sa_star (se_sl (w_ix c.toCtx (se_fld FD_Site_roads (w_v 0)) (w_v 1)) so_none (so_some se_int)) (sa_cons (w_v 2) (sa_cons (w_v 3) sa_nil)))))
  (sb_cons (ss_expr (w_meth c.toCtx (H_Site_look_at_new) (w_v 0) (sa_cons (w_v 4) sa_nil) ))
  (sb_one (ss_expr (w_meth c.toCtx (H_Site_take) (w_v 0) (sa_cons (se_dat (sf_lst (sa_star (se_sl (se_fld FD_Site_roads (w_v 0)) so_none (so_some (w_v 1))) (sa_cons (w_v 4) (sa_star (se_sl (se_fld FD_Site_roads (w_v 0)) (so_some (w_add (w_v 1) se_int)) so_none) sa_nil))))) sa_nil) ))))))
theorem H__law_deed (D : Def K mg "_law_deed" (top 23)) (m_len : mg "len" = none) (H_Site_put : HasM P w K mg base "Site" "put" p_Site_put 5 F_Site_put) (H_Site_len : HasS P w K mg base "Site" "__len__" p_Site_len 1 F_Site_len) (H_Site_drop : HasM P w K mg base "Site" "drop" p_Site_drop 3 F_Site_drop) (H_Site_turn : HasM P w K mg base "Site" "turn" p_Site_turn 5 F_Site_turn) : Has P w K mg base "_law_deed" p__law_deed 6 F_l_deed :=
  has_of (k := 5) D bi__law_deed (N := N__law_deed) sc__law_deed rfl (by decide) fun f cdv A outer s H E c =>
  (sb_one (ss_if (t_eq c.toCtx (w_v 1) se_int) (sb_one (ss_expr (w_meth c.toCtx (H_Site_put) (w_v 0) (sa_cons (w_ix c.toCtx (w_v 2) se_int) (sa_cons (w_ix c.toCtx (w_v 2) se_int) (sa_cons (w_ix c.toCtx (w_v 2) se_int) (sa_cons (w_ix c.toCtx (w_v 2) se_int) sa_nil)))) ))) (sb_one (ss_if (st_w (sw_and (t_eq c.toCtx (w_v 1) se_int) (sw_and1 (t_gt c.toCtx (w_lenO c.toCtx (H_Site_len) (sa_cons (w_v 0) sa_nil)  (hm := m_len)) se_int)))) (sb_one (ss_expr (w_meth c.toCtx (H_Site_drop) (w_v 0) (sa_cons se_int sa_nil) ))) (sb_one (ss_if (st_w (sw_and (t_eq c.toCtx (w_v 1) se_int) (sw_and1 (t_gt c.toCtx (w_lenO c.toCtx (H_Site_len) (sa_cons (w_v 0) sa_nil)  (hm := m_len)) se_int)))) (sb_one (ss_expr (w_meth c.toCtx (H_Site_turn) (w_v 0) (sa_cons (w_sub (w_lenO c.toCtx (H_Site_len) (sa_cons (w_v 0) sa_nil)  (hm := m_len)) se_int) (sa_cons se_int (sa_cons se_int sa_nil))) ))) sb_nil))))))
theorem H_Site_back (D : DefM' K mg "Site" "back" "Site.back" st_Site_back) (FD_Site_past : FldF K mg "Site" "past") (FD_Site_roads : FldF K mg "Site" "roads") : HasM P w K mg base "Site" "back" p_Site_back 1 F_Site_back :=
  hasM_of (k := 0) D bi_Site_back (N := N_Site_back) sc_Site_back rfl (by decide) fun f cdv A outer s H E c =>
  (sb_cons (ss_if (t_eqE c.toCtx (se_fld FD_Site_past (w_v 0)) (se_dat (sf_lst sa_nil))) (sb_one (ss_ret se_bl)) sb_nil)
  (sb_cons (ss_fld FD_Site_roads (w_v 0) (w_pop0 (se_fld FD_Site_past (w_v 0))))
  (sb_one (ss_ret se_bl))))
theorem H__law_good (D : Def K mg "_law_good" (top 24)) (m_len : mg "len" = none) (m_range : mg "range" = none) (H_Site_init : HasI P w K mg base "Site" p_Site_init 6 F_Site_init) (H__law_pair_good : Has P w K mg base "_law_pair_good" p__law_pair_good 4 F_l_pair_good_v2) (H_Site_len : HasS P w K mg base "Site" "__len__" p_Site_len 1 F_Site_len) (H_Site_web : HasM P w K mg base "Site" "web" p_Site_web 1 F_Site_web) (H__law_deed : Has P w K mg base "_law_deed" p__law_deed 6 F_l_deed) (H_Site_back : HasM P w K mg base "Site" "back" p_Site_back 1 F_Site_back) : Has P w K mg base "_law_good" p__law_good 8 F_l_good_v17 :=
  has_of (k := 7) D bi__law_good (N := N__law_good) sc__law_good rfl (by decide) fun f cdv A outer s H E c =>
  (sb_cons (z_for c (si_r1 rfl m_range (sa_cons se_int sa_nil)) (g_name c.toCtx 3) (sb_cons (ss_par c.toCtx.cm c.toCtx.nd (i := 5) (j := 6) rfl rfl (by decide) rfl rfl (sa_cons (w_make c.toCtx (H_Site_init) (sa_cons (w_v 0) sa_nil) ) (sa_cons (w_make c.toCtx (H_Site_init) (sa_cons (w_v 1) sa_nil) ) sa_nil)) rfl)
  (sb_cons (z_set c.toCtx 4 (w_eq c.toCtx (w_v 0) (w_v 1)))
  (sb_cons (ss_if (st_not (st_val (w_call c.toCtx (H__law_pair_good) (sa_cons (w_v 5) (sa_cons (w_v 6) (sa_cons (w_v 4) sa_nil))) ))) (sb_one (ss_ret se_bl)) sb_nil)
  (sb_cons (z_for c (si_v (se_new (sf_lst (sa_cons (se_tup (sa_cons (w_v 5) (sa_cons (w_v 6) (sa_cons (w_v 1) sa_nil)))) (sa_cons (se_tup (sa_cons (w_v 6) (sa_cons (w_v 5) (sa_cons (w_v 0) sa_nil)))) sa_nil))))) (sg_tup c.toCtx.cm (sgs_cons (g_name c.toCtx 7) (sgs_cons (g_name c.toCtx 8) (sgs_cons (g_name c.toCtx 9) sgs_nil)))) (sb_cons (ss_par c.toCtx.cm c.toCtx.nd (i := 10) (j := 11) rfl rfl (by decide) rfl rfl (sa_cons (w_meth0 c.toCtx (H_Site_web) (w_v 7) ) (sa_cons (w_lenO c.toCtx (H_Site_len) (sa_cons (w_v 7) sa_nil)  (hm := m_len)) sa_nil)) rfl)
  (sb_cons (ss_expr (w_call c.toCtx (H__law_deed) (sa_cons (w_v 7) (sa_cons (w_v 3) (sa_cons (w_v 2) sa_nil))) ))
  (sb_cons (ss_if (st_w (sw_or (t_ne c.toCtx (w_meth0 c.toCtx (H_Site_web) (w_v 8) ) (w_v 9)) (sw_or1 (st_not (st_val (w_call c.toCtx (H__law_pair_good) (sa_cons (w_v 7) (sa_cons (w_v 8) (sa_cons (w_eq c.toCtx (w_meth0 c.toCtx (H_Site_web) (w_v 7) ) (w_v 9)) sa_nil))) )))))) (sb_one (ss_ret se_bl)) sb_nil)
  (sb_one (ss_if (st_w (sw_or (st_w (sw_and (st_w (sw_or (t_eq c.toCtx (w_v 3) se_int) (sw_or1 (t_gt c.toCtx (w_v 11) se_int)))) (sw_and1 (t_notB c.toCtx (w_meth0 c.toCtx (H_Site_back) (w_v 7) ) se_bl)))) (sw_or1 (t_ne c.toCtx (w_meth0 c.toCtx (H_Site_web) (w_v 7) ) (w_v 10))))) (sb_one (ss_ret se_bl)) sb_nil))))))
  (sb_one (ss_if (st_w (sw_or (st_not (st_val (w_call c.toCtx (H__law_pair_good) (sa_cons (w_v 5) (sa_cons (w_v 6) (sa_cons (w_v 4) sa_nil))) ))) (sw_or (t_notB c.toCtx (w_meth0 c.toCtx (H_Site_back) (w_v 5) ) se_bl) (sw_or1 (t_notB c.toCtx (w_meth0 c.toCtx (H_Site_back) (w_v 6) ) se_bl))))) (sb_one (ss_ret se_bl)) sb_nil)))))))
  (sb_one (ss_ret se_bl)))
theorem H_Site_ior (D : DefM' K mg "Site" "__ior__" "Site.__ior__" st_Site_ior) (m_isinstance : mg "isinstance" = none) (E_Unlike : ExcF K mg "Unlike") (OW : IsC K mg "Site") (FD_Site_roads : FldF K mg "Site" "roads") (H_Site_web : HasM P w K mg base "Site" "web" p_Site_web 1 F_Site_web) (H_Site_take : HasM P w K mg base "Site" "take" p_Site_take 1 F_Site_take) : HasS P w K mg base "Site" "__ior__" p_Site_ior 2 F_Site_ior :=
  hasS_of (k := 1) D bi_Site_ior (N := N_Site_ior) sc_Site_ior rfl (by decide) fun f cdv A outer s H E c =>
  (sb_cons (ss_if (st_w (sw_or (st_not (st_val (se_isO OW rfl m_isinstance (w_v 1)))) (sw_or1 (t_ne c.toCtx (se_sl (w_meth0 c.toCtx (H_Site_web) (w_v 0) ) so_none (so_some se_int)) (se_sl (w_meth0 c.toCtx (H_Site_web) (w_v 1) ) so_none (so_some se_int)))))) (sb_one (ss_raise c.toCtx E_Unlike)) sb_nil)
  (sb_cons (ss_expr (w_meth c.toCtx (H_Site_take) (w_v 0) (sa_cons (w_add (se_fld FD_Site_roads (w_v 0)) (se_fld FD_Site_roads (w_v 1))) sa_nil) ))
  (sb_one (ss_ret (w_v 0)))))
theorem H__law_joined_good (D : Def K mg "_law_joined_good" (top 25)) (m_len : mg "len" = none) (m_range : mg "range" = none) (OW : IsC K mg "Site") (H_Site_init : HasI P w K mg base "Site" p_Site_init 6 F_Site_init) (H_Site_put : HasM P w K mg base "Site" "put" p_Site_put 5 F_Site_put) (H_Site_turn : HasM P w K mg base "Site" "turn" p_Site_turn 5 F_Site_turn) (H_Site_drop : HasM P w K mg base "Site" "drop" p_Site_drop 3 F_Site_drop) (H_Site_ior : HasS P w K mg base "Site" "__ior__" p_Site_ior 2 F_Site_ior) (H_Site_web : HasM P w K mg base "Site" "web" p_Site_web 1 F_Site_web) (H_Site_back : HasM P w K mg base "Site" "back" p_Site_back 1 F_Site_back) : Has P w K mg base "_law_joined_good" p__law_joined_good 8 F_l_joined_good :=
  has_of (k := 7) D bi__law_joined_good (N := N__law_joined_good) sc__law_joined_good rfl (by decide) fun f cdv A outer s H E c =>
  (sb_cons (ss_asg (se_tup (sa_cons (w_make c.toCtx (H_Site_init) (sa_cons (w_v 0) sa_nil) ) (sa_cons (w_make c.toCtx (H_Site_init) (sa_cons (w_v 1) sa_nil) ) sa_nil))) (sg_tup c.toCtx.cm (sgs_cons (g_name c.toCtx 3) (sgs_cons (g_name c.toCtx 4) sgs_nil))))
  (sb_cons (ss_if (t_ne c.toCtx (se_sl (w_v 0) so_none (so_some se_int)) (se_sl (w_v 1) so_none (so_some se_int))) (sb_one (ss_ret se_bl)) sb_nil)
  (sb_cons (z_set c.toCtx 5 (w_add (w_ix c.toCtx (w_v 1) se_int) (se_tup (sa_cons (w_v 2) sa_nil))))
  (sb_cons (z_set c.toCtx 5 (w_add (se_tup (sa_cons (se_tup (sa_cons (w_ix c.toCtx (w_ix c.toCtx (w_v 5) se_int) se_int) (sa_cons (w_ix c.toCtx (w_ix c.toCtx (w_v 5) se_int) se_int) (sa_cons se_int (sa_cons se_int sa_nil))))) sa_nil)) (se_sl (w_v 5) (so_some se_int) so_none)))
  (sb_cons (ss_expr (w_meth c.toCtx (H_Site_put) (w_v 4) (sa_cons (w_ix c.toCtx (w_v 2) se_int) (sa_cons (w_ix c.toCtx (w_v 2) se_int) (sa_cons (w_ix c.toCtx (w_v 2) se_int) (sa_cons (w_ix c.toCtx (w_v 2) se_int) sa_nil)))) ))
  (sb_cons (ss_expr (w_meth c.toCtx (H_Site_turn) (w_v 4) (sa_cons se_int (sa_cons se_int (sa_cons se_int sa_nil))) ))
  (sb_cons (ss_expr (w_meth c.toCtx (H_Site_put) (w_v 4) (sa_cons (w_ix c.toCtx (w_v 2) se_int) (sa_cons (w_ix c.toCtx (w_v 2) se_int) (sa_cons (w_ix c.toCtx (w_v 2) se_int) (sa_cons (w_ix c.toCtx (w_v 2) se_int) sa_nil)))) ))
  (sb_cons (ss_expr (w_meth c.toCtx (H_Site_drop) (w_v 4) (sa_cons (w_add (w_len m_len (sa_cons (w_ix c.toCtx (w_v 1) se_int) sa_nil)) se_int) sa_nil) ))
  (sb_cons (z_set c.toCtx 6 (w_v 3))
  (sb_cons (ss_augO (op := .BitOr) c.toCtx OW (H_Site_ior) c.toCtx.nd (i := 6) rfl (by first | exact Or.inl rfl | exact Or.inr rfl) (w_v 4) )
  (sb_cons (ss_if (st_w (sw_or (t_ne c.toCtx (w_ix c.toCtx (w_meth0 c.toCtx (H_Site_web) (w_v 3) ) se_int) (w_add (w_ix c.toCtx (w_v 0) se_int) (w_v 5))) (sw_or (t_ne c.toCtx (w_ix c.toCtx (w_meth0 c.toCtx (H_Site_web) (w_v 4) ) se_int) (w_v 5)) (sw_or1 (t_ne c.toCtx (w_meth0 c.toCtx (H_Site_web) (w_v 6) ) (w_meth0 c.toCtx (H_Site_web) (w_v 3) )))))) (sb_one (ss_ret se_bl)) sb_nil)
  (sb_cons (ss_expr (w_meth c.toCtx (H_Site_put) (w_v 3) (sa_cons (w_ix c.toCtx (w_v 2) se_int) (sa_cons (w_ix c.toCtx (w_v 2) se_int) (sa_cons (w_ix c.toCtx (w_v 2) se_int) (sa_cons (w_ix c.toCtx (w_v 2) se_int) sa_nil)))) ))
  (sb_cons (ss_if (st_w (sw_or (t_ne c.toCtx (w_meth0 c.toCtx (H_Site_web) (w_v 6) ) (w_meth0 c.toCtx (H_Site_web) (w_v 3) )) (sw_or (t_ne c.toCtx (w_ix c.toCtx (w_meth0 c.toCtx (H_Site_web) (w_v 4) ) se_int) (w_v 5)) (sw_or1 (t_notB c.toCtx (w_meth0 c.toCtx (H_Site_back) (w_v 3) ) se_bl))))) (sb_one (ss_ret se_bl)) sb_nil)
  (sb_cons (ss_expr (w_meth c.toCtx (H_Site_put) (w_v 4) (sa_cons (w_ix c.toCtx (w_v 2) se_int) (sa_cons (w_ix c.toCtx (w_v 2) se_int) (sa_cons (w_ix c.toCtx (w_v 2) se_int) (sa_cons (w_ix c.toCtx (w_v 2) se_int) sa_nil)))) ))
  (sb_cons (ss_expr (w_meth c.toCtx (H_Site_turn) (w_v 4) (sa_cons se_int (sa_cons se_int (sa_cons se_int sa_nil))) ))
  (sb_cons (ss_expr (w_meth c.toCtx (H_Site_drop) (w_v 4) (sa_cons (w_len m_len (sa_cons (w_v 5) sa_nil)) sa_nil) ))
  (sb_cons (ss_if (t_ne c.toCtx (w_ix c.toCtx (w_meth0 c.toCtx (H_Site_web) (w_v 3) ) se_int) (w_add (w_ix c.toCtx (w_v 0) se_int) (w_v 5))) (sb_one (ss_ret se_bl)) sb_nil)
  (sb_cons (ss_expr (w_meth c.toCtx (H_Site_turn) (w_v 3) (sa_cons (w_len m_len (sa_cons (w_ix c.toCtx (w_v 0) se_int) sa_nil)) (sa_cons se_int (sa_cons se_int sa_nil))) ))
  (sb_cons (ss_expr (w_meth c.toCtx (H_Site_drop) (w_v 3) (sa_cons (w_len m_len (sa_cons (w_ix c.toCtx (w_v 0) se_int) sa_nil)) sa_nil) ))
  (sb_cons (ss_if (t_ne c.toCtx (w_ix c.toCtx (w_meth0 c.toCtx (H_Site_web) (w_v 4) ) se_int) (w_add (se_tup (sa_cons (se_tup (sa_cons (w_ix c.toCtx (w_ix c.toCtx (w_v 5) se_int) se_int) (sa_cons (w_ix c.toCtx (w_ix c.toCtx (w_v 5) se_int) se_int) (sa_cons se_int (sa_cons se_int sa_nil))))) sa_nil)) (se_sl (w_v 5) (so_some se_int) so_none))) (sb_one (ss_ret se_bl)) sb_nil)
  (sb_cons (ss_if (st_w (sw_or (t_ne c.toCtx (se_dat (sf_lst (sa_cons (w_meth0 c.toCtx (H_Site_back) (w_v 3) ) (sa_cons (w_meth0 c.toCtx (H_Site_back) (w_v 3) ) (sa_cons (w_meth0 c.toCtx (H_Site_back) (w_v 3) ) sa_nil))))) (w_mul (se_dat (sf_lst (sa_cons se_bl sa_nil))) se_int)) (sw_or1 (t_ne c.toCtx (w_meth0 c.toCtx (H_Site_web) (w_v 3) ) (w_v 0))))) (sb_one (ss_ret se_bl)) sb_nil)
  (sb_cons (by first | exact ss_setComp c.toCtx.cm c.toCtx.nd (i := 7) rfl rfl rfl (own := [("_law_turn", 8)]) (si_r1 rfl m_range (sa_cons se_int sa_nil)) (blkOk_by (by rfl)) (by decide) (fun s2 Z2 D2 l2 p2 => (g_name (Ctx.bk c.toCtx s2 Z2 _ _ p2) 8)) (fun s2 Z2 D2 l2 p2 => sts_nil) (fun s2 Z2 D2 l2 p2 => (w_meth0 (Ctx.bk c.toCtx s2 Z2 _ _ p2) (H_Site_back) (w_v 4) )) | exact (z_set c.toCtx 7 (se_dat (sf_comp c.toCtx.cm c.toCtx.nd (own := [("_law_turn", 8)]) (si_r1 rfl m_range (sa_cons se_int sa_nil)) (blkOk_by (by rfl)) (by decide) (fun s1 Z1 D1 l1 p1 => (g_name (Ctx.bk c.toCtx s1 Z1 _ _ p1) 8)) (fun s1 Z1 D1 l1 p1 => sts_nil) (fun s1 Z1 D1 l1 p1 => (w_meth0 (Ctx.bk c.toCtx s1 Z1 _ _ p1) (H_Site_back) (w_v 4) ))))))
  (sb_one (ss_ret (se_and (w_eq c.toCtx (w_v 7) (w_add (w_mul (se_dat (sf_lst (sa_cons se_bl sa_nil))) se_int) (se_dat (sf_lst (sa_cons se_bl sa_nil))))) (se_and (w_eq c.toCtx (w_meth0 c.toCtx (H_Site_web) (w_v 4) ) (w_v 1)) (se_one (w_isB c.toCtx (w_meth0 c.toCtx (H_Site_back) (w_v 3) ) se_bl))))))))))))))))))))))))))))
theorem H_law (D : Def K mg "law" (top 26)) (m_len : mg "len" = none) (m_list : mg "list" = none) (m_max : mg "max" = none) (m_min : mg "min" = none) (m_range : mg "range" = none) (m_repr : mg "repr" = none) (OW : IsC K mg "Site") (NE : NeC K mg "Site") (H__law_pile : HasF P w K mg base "_law_pile" p__law_pile 2 F_l_pile) (H__law_web : Has P w K mg base "_law_web" p__law_web 3 F_l_web) (H__law_take : Has P w K mg base "_law_take" p__law_take 1 F_l_take) (H__law_good : Has P w K mg base "_law_good" p__law_good 8 F_l_good_v17) (H__law_joined_good : Has P w K mg base "_law_joined_good" p__law_joined_good 8 F_l_joined_good) (H_Site_init : HasI P w K mg base "Site" p_Site_init 6 F_Site_init) (H__law_pair_good : Has P w K mg base "_law_pair_good" p__law_pair_good 4 F_l_pair_good_v2) (H_Site_eq : HasS P w K mg base "Site" "__eq__" p_Site_eq 2 F_Site_eq) : Has P w K mg base "law" p_law 10 F_law_k51 :=
  has_of (k := 9) D bi_law (N := N_law) sc_law rfl (by decide) fun f cdv A outer s H E c =>
  (sb_cons (z_for c (si_r1 rfl m_range (sa_cons (w_max2 c.toCtx m_max (sa_cons se_int (sa_cons (w_min2 c.toCtx m_min (sa_cons (w_len m_len (sa_cons (w_v 0) sa_nil)) (sa_cons se_int sa_nil))) sa_nil))) sa_nil)) (g_name c.toCtx 1) (sb_cons (z_set c.toCtx 2 (se_new (w_callF c.toCtx (H__law_pile) (sa_cons (w_v 0) (sa_cons (w_v 1) sa_nil)) )))
  (sb_cons (ss_asg (w_call c.toCtx (H__law_web) (sa_cons (w_v 2) (sa_cons se_int sa_nil)) ) (sg_tup c.toCtx.cm (sgs_cons (g_name c.toCtx 12) (sgs_cons (g_name c.toCtx 13) (sgs_cons (g_name c.toCtx 14) (sgs_cons (g_name c.toCtx 15) sgs_nil))))))
  (sb_cons (z_set c.toCtx 3 (se_tup (sa_cons (w_v 13) (sa_cons (w_v 14) (sa_cons (w_add se_int (w_call c.toCtx (H__law_take) (sa_cons (w_v 2) (sa_cons se_int sa_nil)) )) (sa_cons (w_add se_int (w_call c.toCtx (H__law_take) (sa_cons (w_v 2) (sa_cons se_int sa_nil)) )) sa_nil))))))
  (sb_cons (z_set c.toCtx 4 (se_tup (sa_cons (w_v 12) (sa_cons (w_v 13) (sa_cons (w_v 14) (sa_cons (w_v 15) sa_nil))))))
  (sb_cons (z_set c.toCtx 5 (se_dat (sf_lst (sa_cons (w_v 4) (sa_cons (se_tup (sa_cons (w_v 12) (sa_cons (w_v 13) (sa_cons (w_v 14) (sa_cons (se_rev (w_v 15)) sa_nil))))) (sa_cons (se_tup (sa_cons (w_v 12) (sa_cons (w_v 13) (sa_cons (w_v 14) (sa_cons (se_sl (w_v 15) so_none (so_some (se_neg se_int))) sa_nil))))) (sa_cons (se_tup (sa_cons (w_add (w_v 12) se_int) (sa_cons (w_v 13) (sa_cons (w_v 14) (sa_cons (w_v 15) sa_nil))))) sa_nil)))))))
  (sb_cons (z_set c.toCtx 6 (w_ix c.toCtx (se_dat (sf_comp c.toCtx.cm c.toCtx.nd (own := [("_law_one", 16)]) (si_r1 rfl m_range (sa_cons (w_add (w_v 12) se_int) sa_nil)) (blkOk_by (by rfl)) (by decide) (fun s1 Z1 D1 l1 p1 => (g_name (Ctx.bk c.toCtx s1 Z1 _ _ p1) 16)) (fun s1 Z1 D1 l1 p1 => (sts_one (t_notIn (Ctx.bk c.toCtx s1 Z1 _ _ p1) (w_v 16) (se_dat (sf_lst (sa_cons (w_v 13) (sa_cons (w_v 14) sa_nil))))))) (fun s1 Z1 D1 l1 p1 => (w_v 16)))) se_int))
  (sb_cons (z_for c (si_v (w_add (w_v 5) (se_dat (sf_lst (sa_cons (se_tup (sa_cons (w_add (w_v 12) se_int) (sa_cons (w_v 6) (sa_cons (w_v 14) (sa_cons (w_v 15) sa_nil))))) sa_nil))))) (g_name c.toCtx 7) (sb_one (ss_if (st_w (sw_or (st_not (st_val (w_call c.toCtx (H__law_good) (sa_cons (w_v 4) (sa_cons (w_v 7) (sa_cons (w_v 3) sa_nil))) ))) (sw_or1 (st_not (st_val (w_call c.toCtx (H__law_joined_good) (sa_cons (w_v 4) (sa_cons (w_v 7) (sa_cons (w_v 3) sa_nil))) )))))) (sb_one (ss_ret se_bl)) sb_nil)))
  (sb_cons (z_set c.toCtx 8 (w_make c.toCtx (H_Site_init) (sa_cons (se_tup (sa_cons (w_add (w_v 12) se_int) (sa_cons (w_v 13) (sa_cons (w_v 14) (sa_cons (w_v 15) sa_nil))))) sa_nil) ))
  (sb_cons (z_for c (si_v (se_new (sf_lst (sa_cons (w_make c.toCtx (H_Site_init) (sa_cons (se_tup (sa_cons (w_add (w_v 12) se_int) (sa_cons (w_v 12) (sa_cons (w_v 14) (sa_cons (w_v 15) sa_nil))))) sa_nil) ) (sa_cons (w_make c.toCtx (H_Site_init) (sa_cons (se_tup (sa_cons (w_add (w_v 12) se_int) (sa_cons (w_v 13) (sa_cons (w_v 12) (sa_cons (w_v 15) sa_nil))))) sa_nil) ) sa_nil))))) (g_name c.toCtx 9) (sb_one (ss_if (st_not (st_val (w_call c.toCtx (H__law_pair_good) (sa_cons (w_v 8) (sa_cons (w_v 9) (sa_cons se_bl sa_nil))) ))) (sb_one (ss_ret se_bl)) sb_nil)))
  (sb_cons (z_set c.toCtx 10 (w_make c.toCtx (H_Site_init) (sa_cons (w_v 4) sa_nil) ))
  (sb_cons (z_set c.toCtx 11 (se_dat (sf_lst (sa_cons (w_v 4) (sa_cons se_non (sa_cons se_int (sa_cons (se_tup sa_nil) (sa_cons (se_dat (w_list m_list (sa_cons (w_v 15) sa_nil))) sa_nil))))))))
  (sb_one (ss_if (t_ne c.toCtx (se_dat (sf_comp c.toCtx.cm c.toCtx.nd (own := [("_law_thing", 17)]) (si_v (w_v 11)) (blkOk_by (by rfl)) (by decide) (fun s2 Z2 D2 l2 p2 => (g_name (Ctx.bk c.toCtx s2 Z2 _ _ p2) 17)) (fun s2 Z2 D2 l2 p2 => (sts_one (t_ne (Ctx.bk c.toCtx s2 Z2 _ _ p2) (w_repr (Ctx.bk c.toCtx s2 Z2 _ _ p2) m_repr (sa_cons (se_dat (sf_lst (sa_cons (w_eqO (Ctx.bk c.toCtx s2 Z2 _ _ p2) OW (H_Site_eq) (w_v 10) (w_v 17) ) (sa_cons (w_neO (Ctx.bk c.toCtx s2 Z2 _ _ p2) OW NE (H_Site_eq) (w_v 10) (w_v 17) ) sa_nil)))) sa_nil)) se_str))) (fun s2 Z2 D2 l2 p2 => (w_v 17)))) (se_dat (sf_lst sa_nil))) (sb_one (ss_ret se_bl)) sb_nil))))))))))))))
  (sb_one (ss_ret se_bl)))
theorem facts {h : Heap} (X : K.In h) (G : h.Ns mainGlobals mg) (c : He.SaysD fal fnl K) (cE : BB K = true) : Has P w K mg base "law" p_law 10 F_law_k51 := by
  obtain ⟨fd__law_mixed, U__law_mixed⟩ := c.def_ 0 (d := d__law_mixed) rfl
  have D__law_mixed : Def K mg "_law_mixed" (top 17) := ⟨_, fd__law_mixed, He.glo_ok X G (c.fact 0 (f := .glo "_law_mixed") rfl), U__law_mixed⟩
  obtain ⟨fd__law_pile, U__law_pile⟩ := c.def_ 1 (d := d__law_pile) rfl
  have D__law_pile : Def K mg "_law_pile" (top 18) := ⟨_, fd__law_pile, He.glo_ok X G (c.fact 1 (f := .glo "_law_pile") rfl), U__law_pile⟩
  obtain ⟨fd__law_take, U__law_take⟩ := c.def_ 2 (d := d__law_take) rfl
  have D__law_take : Def K mg "_law_take" (top 19) := ⟨_, fd__law_take, He.glo_ok X G (c.fact 2 (f := .glo "_law_take") rfl), U__law_take⟩
  obtain ⟨fd__law_roads, U__law_roads⟩ := c.def_ 3 (d := d__law_roads) rfl
  have D__law_roads : Def K mg "_law_roads" (top 20) := ⟨_, fd__law_roads, He.glo_ok X G (c.fact 3 (f := .glo "_law_roads") rfl), U__law_roads⟩
  obtain ⟨fd__law_web, U__law_web⟩ := c.def_ 4 (d := d__law_web) rfl
  have D__law_web : Def K mg "_law_web" (top 21) := ⟨_, fd__law_web, He.glo_ok X G (c.fact 4 (f := .glo "_law_web") rfl), U__law_web⟩
  obtain ⟨fd_is_whole, U_is_whole⟩ := c.def_ 5 (d := d_is_whole) rfl
  have D_is_whole : Def K mg "is_whole" (top 8) := ⟨_, fd_is_whole, He.glo_ok X G (c.fact 5 (f := .glo "is_whole") rfl), U_is_whole⟩
  obtain ⟨fd_is_place, U_is_place⟩ := c.def_ 6 (d := d_is_place) rfl
  have D_is_place : Def K mg "is_place" (top 10) := ⟨_, fd_is_place, He.glo_ok X G (c.fact 6 (f := .glo "is_place") rfl), U_is_place⟩
  obtain ⟨fd_is_more, U_is_more⟩ := c.def_ 7 (d := d_is_more) rfl
  have D_is_more : Def K mg "is_more" (top 9) := ⟨_, fd_is_more, He.glo_ok X G (c.fact 7 (f := .glo "is_more") rfl), U_is_more⟩
  obtain ⟨fd_is_road, U_is_road⟩ := c.def_ 8 (d := d_is_road) rfl
  have D_is_road : Def K mg "is_road" (top 11) := ⟨_, fd_is_road, He.glo_ok X G (c.fact 8 (f := .glo "is_road") rfl), U_is_road⟩
  obtain ⟨fd_is_right_web, U_is_right_web⟩ := c.def_ 9 (d := d_is_right_web) rfl
  have D_is_right_web : Def K mg "is_right_web" (top 12) := ⟨_, fd_is_right_web, He.glo_ok X G (c.fact 9 (f := .glo "is_right_web") rfl), U_is_right_web⟩
  obtain ⟨fd_look_at_web, U_look_at_web⟩ := c.def_ 10 (d := d_look_at_web) rfl
  have D_look_at_web : Def K mg "look_at_web" (top 13) := ⟨_, fd_look_at_web, He.glo_ok X G (c.fact 10 (f := .glo "look_at_web") rfl), U_look_at_web⟩
  obtain ⟨fd_Site_init, U_Site_init⟩ := c.def_ 11 (d := d_Site_init) rfl
  have D_Site_init : DefI K mg "Site" "Site.__init__" st_Site_init := ⟨_, _, fd_Site_init, He.glo_ok X G (c.fact 11 (f := .glo "Site") rfl), He.mkr_ok (c.fact 54 (f := .mkr "Site") rfl), U_Site_init⟩
  obtain ⟨fd_Site_web, U_Site_web⟩ := c.def_ 12 (d := d_Site_web) rfl
  have D_Site_web : DefM' K mg "Site" "web" "Site.web" st_Site_web := ⟨_, _, fd_Site_web, He.glo_ok X G (c.fact 11 (f := .glo "Site") rfl), He.cls_ok (c.fact 48 (f := .cls "Site") rfl), He.meth_ok (c.fact 55 (f := .meth "Site" "web") rfl), U_Site_web⟩
  obtain ⟨fd_Site_eq, U_Site_eq⟩ := c.def_ 13 (d := d_Site_eq) rfl
  have D_Site_eq : DefM' K mg "Site" "__eq__" "Site.__eq__" st_Site_eq := ⟨_, _, fd_Site_eq, He.glo_ok X G (c.fact 11 (f := .glo "Site") rfl), He.cls_ok (c.fact 48 (f := .cls "Site") rfl), He.meth_ok (c.fact 56 (f := .meth "Site" "__eq__") rfl), U_Site_eq⟩
  obtain ⟨fd__law_pair_good, U__law_pair_good⟩ := c.def_ 14 (d := d__law_pair_good) rfl
  have D__law_pair_good : Def K mg "_law_pair_good" (top 22) := ⟨_, fd__law_pair_good, He.glo_ok X G (c.fact 14 (f := .glo "_law_pair_good") rfl), U__law_pair_good⟩
  obtain ⟨fd_Site_len, U_Site_len⟩ := c.def_ 15 (d := d_Site_len) rfl
  have D_Site_len : DefM' K mg "Site" "__len__" "Site.__len__" st_Site_len := ⟨_, _, fd_Site_len, He.glo_ok X G (c.fact 11 (f := .glo "Site") rfl), He.cls_ok (c.fact 48 (f := .cls "Site") rfl), He.meth_ok (c.fact 57 (f := .meth "Site" "__len__") rfl), U_Site_len⟩
  obtain ⟨fd_Site_look_at_new, U_Site_look_at_new⟩ := c.def_ 16 (d := d_Site_look_at_new) rfl
  have D_Site_look_at_new : DefM' K mg "Site" "look_at_new" "Site.look_at_new" st_Site_look_at_new := ⟨_, _, fd_Site_look_at_new, He.glo_ok X G (c.fact 11 (f := .glo "Site") rfl), He.cls_ok (c.fact 48 (f := .cls "Site") rfl), He.meth_ok (c.fact 58 (f := .meth "Site" "look_at_new") rfl), U_Site_look_at_new⟩
  obtain ⟨fd_Site_take, U_Site_take⟩ := c.def_ 17 (d := d_Site_take) rfl
  have D_Site_take : DefM' K mg "Site" "take" "Site.take" st_Site_take := ⟨_, _, fd_Site_take, He.glo_ok X G (c.fact 11 (f := .glo "Site") rfl), He.cls_ok (c.fact 48 (f := .cls "Site") rfl), He.meth_ok (c.fact 59 (f := .meth "Site" "take") rfl), U_Site_take⟩
  obtain ⟨fd_Site_put, U_Site_put⟩ := c.def_ 18 (d := d_Site_put) rfl
  have D_Site_put : DefM' K mg "Site" "put" "Site.put" st_Site_put := ⟨_, _, fd_Site_put, He.glo_ok X G (c.fact 11 (f := .glo "Site") rfl), He.cls_ok (c.fact 48 (f := .cls "Site") rfl), He.meth_ok (c.fact 60 (f := .meth "Site" "put") rfl), U_Site_put⟩
  obtain ⟨fd_Site_look_at_place, U_Site_look_at_place⟩ := c.def_ 19 (d := d_Site_look_at_place) rfl
  have D_Site_look_at_place : DefM' K mg "Site" "look_at_place" "Site.look_at_place" st_Site_look_at_place := ⟨_, _, fd_Site_look_at_place, He.glo_ok X G (c.fact 11 (f := .glo "Site") rfl), He.cls_ok (c.fact 48 (f := .cls "Site") rfl), He.meth_ok (c.fact 61 (f := .meth "Site" "look_at_place") rfl), U_Site_look_at_place⟩
  obtain ⟨fd_Site_drop, U_Site_drop⟩ := c.def_ 20 (d := d_Site_drop) rfl
  have D_Site_drop : DefM' K mg "Site" "drop" "Site.drop" st_Site_drop := ⟨_, _, fd_Site_drop, He.glo_ok X G (c.fact 11 (f := .glo "Site") rfl), He.cls_ok (c.fact 48 (f := .cls "Site") rfl), He.meth_ok (c.fact 62 (f := .meth "Site" "drop") rfl), U_Site_drop⟩
  obtain ⟨fd_Site_turn, U_Site_turn⟩ := c.def_ 21 (d := d_Site_turn) rfl
  have D_Site_turn : DefM' K mg "Site" "turn" "Site.turn" st_Site_turn := ⟨_, _, fd_Site_turn, He.glo_ok X G (c.fact 11 (f := .glo "Site") rfl), He.cls_ok (c.fact 48 (f := .cls "Site") rfl), He.meth_ok (c.fact 63 (f := .meth "Site" "turn") rfl), U_Site_turn⟩
  obtain ⟨fd__law_deed, U__law_deed⟩ := c.def_ 22 (d := d__law_deed) rfl
  have D__law_deed : Def K mg "_law_deed" (top 23) := ⟨_, fd__law_deed, He.glo_ok X G (c.fact 22 (f := .glo "_law_deed") rfl), U__law_deed⟩
  obtain ⟨fd_Site_back, U_Site_back⟩ := c.def_ 23 (d := d_Site_back) rfl
  have D_Site_back : DefM' K mg "Site" "back" "Site.back" st_Site_back := ⟨_, _, fd_Site_back, He.glo_ok X G (c.fact 11 (f := .glo "Site") rfl), He.cls_ok (c.fact 48 (f := .cls "Site") rfl), He.meth_ok (c.fact 64 (f := .meth "Site" "back") rfl), U_Site_back⟩
  obtain ⟨fd__law_good, U__law_good⟩ := c.def_ 24 (d := d__law_good) rfl
  have D__law_good : Def K mg "_law_good" (top 24) := ⟨_, fd__law_good, He.glo_ok X G (c.fact 24 (f := .glo "_law_good") rfl), U__law_good⟩
  obtain ⟨fd_Site_ior, U_Site_ior⟩ := c.def_ 25 (d := d_Site_ior) rfl
  have D_Site_ior : DefM' K mg "Site" "__ior__" "Site.__ior__" st_Site_ior := ⟨_, _, fd_Site_ior, He.glo_ok X G (c.fact 11 (f := .glo "Site") rfl), He.cls_ok (c.fact 48 (f := .cls "Site") rfl), He.meth_ok (c.fact 65 (f := .meth "Site" "__ior__") rfl), U_Site_ior⟩
  obtain ⟨fd__law_joined_good, U__law_joined_good⟩ := c.def_ 26 (d := d__law_joined_good) rfl
  have D__law_joined_good : Def K mg "_law_joined_good" (top 25) := ⟨_, fd__law_joined_good, He.glo_ok X G (c.fact 26 (f := .glo "_law_joined_good") rfl), U__law_joined_good⟩
  obtain ⟨fd_law, U_law⟩ := c.def_ 27 (d := d_law) rfl
  have D_law : Def K mg "law" (top 26) := ⟨_, fd_law, He.glo_ok X G (c.fact 27 (f := .glo "law") rfl), U_law⟩
  have m_all : mg "all" = none := He.free_ok X G (c.fact 28 (f := .free "all") rfl)
  have m_bool : mg "bool" = none := He.free_ok X G (c.fact 29 (f := .free "bool") rfl)
  have m_int : mg "int" = none := He.free_ok X G (c.fact 30 (f := .free "int") rfl)
  have m_isinstance : mg "isinstance" = none := He.free_ok X G (c.fact 31 (f := .free "isinstance") rfl)
  have m_len : mg "len" = none := He.free_ok X G (c.fact 32 (f := .free "len") rfl)
  have m_list : mg "list" = none := He.free_ok X G (c.fact 33 (f := .free "list") rfl)
  have m_max : mg "max" = none := He.free_ok X G (c.fact 34 (f := .free "max") rfl)
  have m_min : mg "min" = none := He.free_ok X G (c.fact 35 (f := .free "min") rfl)
  have m_range : mg "range" = none := He.free_ok X G (c.fact 36 (f := .free "range") rfl)
  have m_repr : mg "repr" = none := He.free_ok X G (c.fact 37 (f := .free "repr") rfl)
  have m_tuple : mg "tuple" = none := He.free_ok X G (c.fact 38 (f := .free "tuple") rfl)
  have E_NoRoad : ExcF K mg "NoRoad" := ⟨_, He.glo_ok X G (c.fact 39 (f := .glo "NoRoad") rfl), He.exc_ok (c.fact 40 (f := .exc "NoRoad") rfl)⟩
  have E_NoWeb : ExcF K mg "NoWeb" := ⟨_, He.glo_ok X G (c.fact 41 (f := .glo "NoWeb") rfl), He.exc_ok (c.fact 42 (f := .exc "NoWeb") rfl)⟩
  have E_NotRoad : ExcF K mg "NotRoad" := ⟨_, He.glo_ok X G (c.fact 43 (f := .glo "NotRoad") rfl), He.exc_ok (c.fact 44 (f := .exc "NotRoad") rfl)⟩
  have E_Unlike : ExcF K mg "Unlike" := ⟨_, He.glo_ok X G (c.fact 45 (f := .glo "Unlike") rfl), He.exc_ok (c.fact 46 (f := .exc "Unlike") rfl)⟩
  have FD_Site_begin : FldF K mg "Site" "begin" := fld_of X G (c.fact 11 (f := .glo "Site") rfl) (c.fact 48 (f := .cls "Site") rfl) (c.fact 49 (f := .noat "Site" "begin") rfl)
  have FD_Site_end : FldF K mg "Site" "end" := fld_of X G (c.fact 11 (f := .glo "Site") rfl) (c.fact 48 (f := .cls "Site") rfl) (c.fact 50 (f := .noat "Site" "end") rfl)
  have FD_Site_many : FldF K mg "Site" "many" := fld_of X G (c.fact 11 (f := .glo "Site") rfl) (c.fact 48 (f := .cls "Site") rfl) (c.fact 51 (f := .noat "Site" "many") rfl)
  have FD_Site_past : FldF K mg "Site" "past" := fld_of X G (c.fact 11 (f := .glo "Site") rfl) (c.fact 48 (f := .cls "Site") rfl) (c.fact 52 (f := .noat "Site" "past") rfl)
  have FD_Site_roads : FldF K mg "Site" "roads" := fld_of X G (c.fact 11 (f := .glo "Site") rfl) (c.fact 48 (f := .cls "Site") rfl) (c.fact 53 (f := .noat "Site" "roads") rfl)
  have cE2 := Bool.and_eq_true_iff.mp cE
  have cE3 := Bool.and_eq_true_iff.mp cE2.2
  have OW : IsC K mg "Site" := isC_of X G (c.fact 11 (f := .glo "Site") rfl) (c.fact 48 (f := .cls "Site") rfl) cE3.1
  have NE : NeC K mg "Site" := neC_of X G (c.fact 11 (f := .glo "Site") rfl) cE3.2
  have h__law_mixed : Has P w K mg base "_law_mixed" p__law_mixed 1 F_l_mixed := H__law_mixed D__law_mixed m_int
  have h__law_pile : HasF P w K mg base "_law_pile" p__law_pile 2 F_l_pile := H__law_pile D__law_pile m_int m_len m_range h__law_mixed
  have h__law_take : Has P w K mg base "_law_take" p__law_take 1 F_l_take := H__law_take D__law_take m_int
  have h__law_roads : Has P w K mg base "_law_roads" p__law_roads 2 F_l_roads := H__law_roads D__law_roads m_range m_tuple h__law_take
  have h__law_web : Has P w K mg base "_law_web" p__law_web 3 F_l_web := H__law_web D__law_web m_int h__law_take h__law_roads
  have h_is_whole : Has P w K mg base "is_whole" p_is_whole 1 F_is_whole := H_is_whole D_is_whole m_bool m_int m_isinstance
  have h_is_place : Has P w K mg base "is_place" p_is_place 2 F_is_place := H_is_place D_is_place h_is_whole
  have h_is_more : Has P w K mg base "is_more" p_is_more 2 F_is_more := H_is_more D_is_more h_is_whole
  have h_is_road : Has P w K mg base "is_road" p_is_road 3 F_is_road := H_is_road D_is_road m_isinstance m_len m_tuple h_is_place h_is_more
  have h_is_right_web : Has P w K mg base "is_right_web" p_is_right_web 4 F_is_right_web := H_is_right_web D_is_right_web m_all m_isinstance m_len m_tuple h_is_whole h_is_place h_is_road
  have h_look_at_web : Has P w K mg base "look_at_web" p_look_at_web 5 F_look_at_web := H_look_at_web D_look_at_web E_NoWeb h_is_right_web
  have h_Site_init : HasI P w K mg base "Site" p_Site_init 6 F_Site_init := H_Site_init D_Site_init m_list FD_Site_begin FD_Site_end FD_Site_many FD_Site_past FD_Site_roads h_look_at_web
  have h_Site_web : HasM P w K mg base "Site" "web" p_Site_web 1 F_Site_web := H_Site_web D_Site_web m_tuple FD_Site_begin FD_Site_end FD_Site_many FD_Site_roads
  have h_Site_eq : HasS P w K mg base "Site" "__eq__" p_Site_eq 2 F_Site_eq := H_Site_eq D_Site_eq m_isinstance OW h_Site_web
  have h__law_pair_good : Has P w K mg base "_law_pair_good" p__law_pair_good 4 F_l_pair_good_v2 := H__law_pair_good D__law_pair_good m_bool m_isinstance OW NE h_Site_eq
  have h_Site_len : HasS P w K mg base "Site" "__len__" p_Site_len 1 F_Site_len := H_Site_len D_Site_len m_len FD_Site_roads
  have h_Site_look_at_new : HasM P w K mg base "Site" "look_at_new" p_Site_look_at_new 4 F_Site_look_at_new := H_Site_look_at_new D_Site_look_at_new E_NotRoad FD_Site_end FD_Site_many h_is_road
  have h_Site_take : HasM P w K mg base "Site" "take" p_Site_take 1 F_Site_take := H_Site_take D_Site_take FD_Site_past FD_Site_roads
  have h_Site_put : HasM P w K mg base "Site" "put" p_Site_put 5 F_Site_put := H_Site_put D_Site_put m_len FD_Site_roads h_Site_look_at_new h_Site_take
  have h_Site_look_at_place : HasM P w K mg base "Site" "look_at_place" p_Site_look_at_place 2 F_Site_look_at_place := H_Site_look_at_place D_Site_look_at_place m_len E_NoRoad FD_Site_roads h_is_whole
  have h_Site_drop : HasM P w K mg base "Site" "drop" p_Site_drop 3 F_Site_drop := H_Site_drop D_Site_drop FD_Site_roads h_Site_look_at_place h_Site_take
  have h_Site_turn : HasM P w K mg base "Site" "turn" p_Site_turn 5 F_Site_turn := H_Site_turn D_Site_turn FD_Site_roads h_Site_look_at_place h_Site_look_at_new h_Site_take
  have h__law_deed : Has P w K mg base "_law_deed" p__law_deed 6 F_l_deed := H__law_deed D__law_deed m_len h_Site_put h_Site_len h_Site_drop h_Site_turn
  have h_Site_back : HasM P w K mg base "Site" "back" p_Site_back 1 F_Site_back := H_Site_back D_Site_back FD_Site_past FD_Site_roads
  have h__law_good : Has P w K mg base "_law_good" p__law_good 8 F_l_good_v17 := H__law_good D__law_good m_len m_range h_Site_init h__law_pair_good h_Site_len h_Site_web h__law_deed h_Site_back
  have h_Site_ior : HasS P w K mg base "Site" "__ior__" p_Site_ior 2 F_Site_ior := H_Site_ior D_Site_ior m_isinstance E_Unlike OW FD_Site_roads h_Site_web h_Site_take
  have h__law_joined_good : Has P w K mg base "_law_joined_good" p__law_joined_good 8 F_l_joined_good := H__law_joined_good D__law_joined_good m_len m_range OW h_Site_init h_Site_put h_Site_turn h_Site_drop h_Site_ior h_Site_web h_Site_back
  exact H_law D_law m_len m_list m_max m_min m_range m_repr OW NE h__law_pile h__law_web h__law_take h__law_good h__law_joined_good h_Site_init h__law_pair_good h_Site_eq
end L2.HW.R_k51
set_option maxHeartbeats 200000
namespace L2.HW
open PySem PySem.Spec PyProof.Rows
@[simp] theorem openOut_nx (lk : Option Nat) (L0 L : LH) (env : En) : openOut lk L0 (.nx env L) = .nx env (openL lk L0 L) := (rfl)
@[simp] theorem openOut_rt (lk : Option Nat) (L0 L : LH) (w : Va) : openOut lk L0 (.rt w L) = .rt w (openL lk L0 L) := (rfl)
mutual
def fine : PyData → Bool
  | .none => true
  | .bool _ => true
  | .int i => decide (i.natAbs.log2 < 1920)
  | .str x => PyData.strOk x
  | .list xs => fineAll xs
  | .tuple xs => fineAll xs
  | .dict _ => false
def fineAll : List PyData → Bool
  | [] => true
  | x :: xs => fine x && fineAll xs
end
theorem fineAll_iff : ∀ {xs : List PyData}, fineAll xs = true ↔ ∀ x ∈ xs, fine x = true
  | [] => by simp [fineAll]
  | x :: xs => by simp [fineAll, fineAll_iff (xs := xs)]
mutual
theorem fine_show : ∀ x : PyData, fine x = true → x.showable = true ∧ x.canLay0 = true ∧ x.leavesShort 1921 = true
  | .none, _ => by simp [PyData.showable, PyData.canLay0, PyData.leavesShort]
  | .bool _, _ => by simp [PyData.showable, PyData.canLay0, PyData.leavesShort]
  | .int i, h => by
    have h : i.natAbs.log2 < 1920 := by simpa [fine] using h
    refine ⟨by simpa [PyData.showable] using h, by simp [PyData.canLay0], ?_⟩
    simp only [PyData.leavesShort, PyData.shown]
    exact decide_eq_true (int_text_len_1921 h)
  | .str x, h => by
    have h : PyData.strOk x = true := by simpa [fine] using h
    refine ⟨by simp [PyData.showable], by simpa [PyData.canLay0] using h, ?_⟩
    simp only [PyData.leavesShort, List.all_eq_true, decide_eq_true_eq]
    intro c hc
    unfold PyData.strOk at h
    rw [Array.all_eq_true_iff_forall_mem] at h
    have := h c (by simpa using hc)
    have : c < 0x110000 := by simpa using this
    omega
  | .list xs, h => by
    obtain ⟨h1, h2, h3⟩ := fines_show xs (by simpa [fine] using h)
    exact ⟨by simpa [PyData.showable] using h1, by simpa [PyData.canLay0] using h2, by simpa [PyData.leavesShort] using h3⟩
  | .tuple xs, h => by
    obtain ⟨h1, h2, h3⟩ := fines_show xs (by simpa [fine] using h)
    exact ⟨by simpa [PyData.showable] using h1, by simpa [PyData.canLay0] using h2, by simpa [PyData.leavesShort] using h3⟩
  | .dict _, h => by simp [fine] at h
theorem fines_show : ∀ x : List PyData, fineAll x = true → PyData.showableAll x = true ∧ PyData.canLayAll0 x = true ∧ PyData.leavesShortAll 1921 x = true
  | [], _ => by simp [PyData.showableAll, PyData.canLayAll0, PyData.leavesShortAll]
  | x :: xs, h => by
    have h : fine x = true ∧ fineAll xs = true := by simpa [fineAll] using h
    obtain ⟨h1, h2, h3⟩ := fine_show x h.1
    obtain ⟨k1, k2, k3⟩ := fines_show xs h.2
    simp [PyData.showableAll, PyData.canLayAll0, PyData.leavesShortAll, h1, h2, h3, k1, k2, k3]
end
theorem okShow_of {x : PyData} (h : fine x = true) (hd : x.depth < 180) (hb : x.bulk ≤ 8000) : okShow x := by
  obtain ⟨h1, h2, h3⟩ := fine_show x h
  refine ⟨h1, hd, ?_⟩
  have := PyData.shown_le_bulk 1921 (by decide) x h3
  rw [sizeLine_eq]
  omega
theorem shaped_of {x : PyData} (h : fine x = true) (hd : x.depth ≤ 64) : SeqAt.shaped x = true := by
  obtain ⟨h1, h2, h3⟩ := fine_show x h
  simp [SeqAt.shaped, h2, hd]
theorem depthAll_le {n : Nat} : ∀ {xs : List PyData}, PyData.depthAll xs ≤ n ↔ ∀ x ∈ xs, x.depth ≤ n
  | [] => by simp [PyData.depthAll]
  | x :: xs => by simp [PyData.depthAll, depthAll_le (xs := xs), Nat.max_le]
theorem eqv_int (i j : Int) : PyData.eqv (.int i) (.int j) = decide (i = j) := by
  by_cases h : i = j <;> simp [PyData.eqv, h]
@[simp] theorem dget_d (L : LH) (x : PyData) (u : Va) : Va.dget L (.d x) u = none := by
  unfold Va.dget
  split <;> first | rfl | (rename_i h; cases h) | (rename_i h _; cases h)
@[simp] theorem dget_scr (L : LH) (x : List Int) (u : Va) : Va.dget L (.scr x) u = none := by
  unfold Va.dget
  split <;> first | rfl | (rename_i h; cases h) | (rename_i h _; cases h)
@[simp] theorem seq_scr (L : LH) (ns : List Int) : (Va.scr ns).seq L = some (ns.map fun i => .d (.int i)) := (rfl)
theorem forL_inv {g : Va → En → LH → Res En} {body : SFn} {I : List Va → En → LH → Prop} : ∀ (ws : List Va) (env : En) (L : LH), I ws env L →
    (∀ w r env L, I (w :: r) env L → ∃ env1 L1, g w env L = .ok env1 L1 ∧ ∃ env2 L2, (body env1 L1 = .nx env2 L2 ∨ body env1 L1 = .ct env2 L2) ∧ I r env2 L2) → ∃ env' L', forL g body ws env L = .nx env' L' ∧ I [] env' L'
  | [], env, L, h, _ => ⟨env, L, rfl, h⟩
  | w :: ws, env, L, h, k => by
    obtain ⟨env1, L1, e1, env2, L2, e2, h2⟩ := k w ws env L h
    obtain ⟨env', L', e3, h3⟩ := forL_inv ws env2 L2 h2 k
    refine ⟨env', L', ?_, h3⟩
    unfold forL
    rw [e1]
    rcases e2 with e2 | e2 <;> simp only [e2] <;> exact e3
theorem compL_data {g : Va → En → LH → Res En} {t : En → LH → Res Bool} {f : EF} {env : En} {L : LH} (p : PyData → Bool) (h : PyData → PyData) : ∀ (xs : List PyData),
    (∀ x ∈ xs, ∃ env1, g (.d x) env L = .ok env1 L ∧ t env1 L = .ok (p x) L ∧ (p x = true → f env1 L = .ok (.d (h x)) L)) →
    compL g t f (xs.map Va.d) env L = .ok (((xs.filter p).map h).map Va.d) L
  | [], _ => rfl
  | x :: xs, k => by
    obtain ⟨env1, e1, e2, e3⟩ := k x List.mem_cons_self
    have ih := compL_data (g := g) (t := t) (f := f) (env := env) (L := L) p h xs fun y hy => k y (List.mem_cons_of_mem _ hy)
    rw [List.map_cons]
    unfold compL
    rw [e1]
    simp only [e2]
    cases hp : p x with
    | true => simp [e3 hp, ih, hp]
    | false => simp [ih, hp]
theorem fComp_data {s : Srcf} {g : Va → En → LH → Res En} {t : En → LH → Res Bool} {f : EF} {vs : List Nat} {env : En} {L : LH} {xs : List PyData} (p : PyData → Bool) (h : PyData → PyData)
    (hs : s env L = .ok (xs.map Va.d, none) L) (hz : xs.length ≤ sizeLine) (k : ∀ x ∈ xs, ∃ env1, g (.d x) (wipeE env vs) L = .ok env1 L ∧ t env1 L = .ok (p x) L ∧ (p x = true → f env1 L = .ok (.d (h x)) L)) :
    fComp s g t f vs env L = .ok (.lst (((xs.filter p).map h).map Va.d)) L := by
  unfold fComp
  rw [hs]
  simp only [Res.bind_ok, List.length_map, if_pos hz, lockL_none]
  rw [compL_data p h xs k]
  simp
@[simp] theorem va_comp {α : Type} (h : α → PyData) (xs : List α) : (Ob.lst (xs.map (Va.d ∘ h))).va = some (.d (.list (xs.map h))) := by
  rw [← List.map_map]; exact va_lst _
@[simp] theorem va_comp' {α : Type} (h : α → PyData) (xs : List α) : (Ob.lst (xs.map fun x => Va.d (h x))).va = some (.d (.list (xs.map h))) := va_comp h xs
theorem fComp_map {s : Srcf} {g : Va → En → LH → Res En} {f : EF} {vs : List Nat} {env : En} {L : LH} {xs : List PyData} (h : PyData → PyData)
    (hs : s env L = .ok (xs.map Va.d, none) L) (hz : xs.length ≤ sizeLine) (k : ∀ x ∈ xs, ∃ env1, g (.d x) (wipeE env vs) L = .ok env1 L ∧ f env1 L = .ok (.d (h x)) L) :
    fComp s g tTrue f vs env L = .ok (.lst ((xs.map h).map Va.d)) L := by
  have := fComp_data (s := s) (g := g) (t := tTrue) (f := f) (vs := vs) (env := env) (L := L) (xs := xs) (fun _ => true) h hs hz fun x hx => by
    obtain ⟨e, h1, h2⟩ := k x hx
    exact ⟨e, h1, rfl, fun _ => h2⟩
  rwa [List.filter_eq_self.mpr (fun _ _ => rfl)] at this
theorem fComp_filter {s : Srcf} {g : Va → En → LH → Res En} {t : En → LH → Res Bool} {f : EF} {vs : List Nat} {env : En} {L : LH} {xs : List PyData} (p : PyData → Bool)
    (hs : s env L = .ok (xs.map Va.d, none) L) (hz : xs.length ≤ sizeLine) (k : ∀ x ∈ xs, ∃ env1, g (.d x) (wipeE env vs) L = .ok env1 L ∧ t env1 L = .ok (p x) L ∧ f env1 L = .ok (.d x) L) :
    fComp s g t f vs env L = .ok (.lst ((xs.filter p).map Va.d)) L := by
  have := fComp_data (s := s) (g := g) (t := t) (f := f) (vs := vs) (env := env) (L := L) (xs := xs) p _root_.id hs hz fun x hx => by
    obtain ⟨e, h1, h2, h3⟩ := k x hx
    exact ⟨e, h1, h2, fun _ => h3⟩
  simpa using this
@[simp] theorem va_nil : (Ob.lst []).va = some (.d (.list [])) := (rfl)
abbrev P1 (p : Int) : Option Ob := some (.lst [.d (.int p)])
theorem kept_set {L g : LH} {n : Nat} {p p' : Int} (hn : n < L.length) : Kept (L.set n (P1 p)) ((L ++ g).set n (P1 p')) := by
  intro k hk
  rw [List.length_set] at hk
  by_cases h : k = n
  · subst h
    exact .inr ⟨_, List.getElem?_set_self (by simp; omega), by simp [Ob.low, lows]⟩
  · left
    rw [List.getElem?_set_ne (Ne.symm h), List.getElem?_set_ne (Ne.symm h), List.getElem?_append_left hk]
theorem outV_set {L g : LH} {n : Nat} {p p' : Int} (w : Va) (hn : n < L.length) : outV (L.set n (P1 p)) ((L ++ g).set n (P1 p')) (some w) = .ok w (L.set n (P1 p')) := by
  unfold outV
  simp only [if_pos (kept_set hn), List.length_set]
  rw [List.set_append_left _ _ hn, List.take_left' (by simp)]
theorem outV_set0 {L : LH} {n : Nat} {p p' : Int} (w : Va) (hn : n < L.length) : outV (L.set n (P1 p)) (L.set n (P1 p')) (some w) = .ok w (L.set n (P1 p')) := by
  have := outV_set (g := []) (p := p) (p' := p') w hn
  rwa [List.append_nil] at this
theorem set_app {L g : LH} {n : Nat} {o : Option Ob} (hn : n < L.length) : L.set n o ++ g = (L ++ g).set n o := (List.set_append_left _ _ hn).symm
theorem get_pile {L : LH} {n : Nat} {p : Int} (hn : n < L.length) : (L.set n (P1 p))[n]? = some (P1 p) := List.getElem?_set_self hn
theorem get_top {L : LH} {n : Nat} {p : Int} {o : Option Ob} (hn : n < L.length) : ((L ++ [o]).set n (P1 p))[L.length]? = some o := by
  rw [List.getElem?_set_ne (by omega), List.getElem?_append_right (Nat.le_refl _)]; simp
theorem set_top {L : LH} {n : Nat} {p : Int} {o o' : Option Ob} (hn : n < L.length) : ((L ++ [o]).set n (P1 p)).set L.length o' = (L ++ [o']).set n (P1 p) := by
  rw [List.set_comm _ _ (by omega), List.set_append_right _ _ (Nat.le_refl _)]; simp
theorem get_top' {L : LH} {n : Nat} {p : Int} {o : Option Ob} (hn : n < L.length) (h : L.length < ((L ++ [o]).set n (P1 p)).length) : ((L ++ [o]).set n (P1 p))[L.length]'h = o := by
  have := get_top (p := p) (o := o) hn
  rw [List.getElem?_eq_getElem h] at this
  exact Option.some.inj this
theorem rng_ok {c : Int} (h : 0 ≤ c) (h2 : c ≤ 1000000) : -4611686018427387904 ≤ c ∧ c < 4611686018427387904 := by omega
theorem outV_set' {L g : LH} {n : Nat} {p p' : Int} (w : Va) (hn : n < L.length) : outV (L.set n (P1 p)) (L.set n (P1 p') ++ g) (some w) = .ok w (L.set n (P1 p')) := by
  rw [set_app hn]; exact outV_set w hn
@[simp] theorem u_mkTup (ws : List Va) : mkTup ws = match datas ws with
  | some xs => .d (.tuple xs)
  | none => .tup ws := rfl
@[simp] theorem u_va (ws : List Va) : (Ob.lst ws).va = (datas ws).map fun xs => .d (.list xs) := (rfl)
@[simp] theorem datas_comp {α : Type} (h : α → PyData) (xs : List α) : datas (xs.map (Va.d ∘ h)) = some (xs.map h) := by
  rw [← List.map_map]; exact datas_map _
@[simp] theorem datas_comp' {α : Type} (h : α → PyData) (xs : List α) : datas (xs.map fun x => Va.d (h x)) = some (xs.map h) := datas_comp h xs
@[simp] theorem cmpOk_str (a b : Str) : cmpOk (.str a) (.str b) = true := (rfl)
theorem cmpOk_of {x y : PyData} (h : SeqAt.shaped x = true) (k : SeqAt.shaped y = true) : cmpOk x y = true := by simp [cmpOk, h, k]
@[simp] theorem cmpOk_int (a b : Int) : cmpOk (.int a) (.int b) = true := cmpOk_of (by simp [SeqAt.shaped, PyData.canLay0, PyData.depth]) (by simp [SeqAt.shaped, PyData.canLay0, PyData.depth])
@[simp] theorem cmpOk_bool (a b : Bool) : cmpOk (.bool a) (.bool b) = true := cmpOk_of (by simp [SeqAt.shaped, PyData.canLay0, PyData.depth]) (by simp [SeqAt.shaped, PyData.canLay0, PyData.depth])
@[simp] theorem outV_nil (L : LH) (w : Va) : outV [] L (some w) = .ok w [] := by
  have : Kept [] L := fun n h => by simp at h
  simp [outV, this]
theorem cMin2_eq (i j : Int) (L : LH) : cMin2 [.d (.int i), .d (.int j)] L = .ok (.d (.int (min i j))) L := by
  simp only [u_cMin2]
  congr 3
  by_cases h : j < i
  · rw [if_pos h]; omega
  · rw [if_neg h]; omega
theorem cMax2_eq (i j : Int) (L : LH) : cMax2 [.d (.int i), .d (.int j)] L = .ok (.d (.int (max i j))) L := by
  simp only [u_cMax2]
  congr 3
  by_cases h : j > i
  · rw [if_pos h]; omega
  · rw [if_neg h]; omega
@[simp] theorem outV_self (L : LH) (w : Va) : outV L L (some w) = .ok w L := by simp [outV]
@[simp] theorem outV_app (L g : LH) (w : Va) : outV L (L ++ g) (some w) = .ok w L := by simp [outV]
end L2.HW
namespace L2.HW
open PySem PySem.Spec PyProof.Rows
theorem take_ex {L : LH} {n : Nat} {p s : Int} (hn : n < L.length) (hs : 0 < s) (hl : s.natAbs.log2 < 9000 := by decide) :
    ∃ u p' : Int, 0 ≤ u ∧ u < s ∧ F_l_take [.loc n, .d (.int s)] (L.set n (P1 p)) = .ok (.d (.int u)) (L.set n (P1 p')) := by
  refine ⟨p % s, p / s, Int.emod_nonneg _ (by omega), Int.emod_lt_of_pos _ hs, ?_⟩
  have hg := get_pile (L := L) (p := p) hn
  simp [F_l_take, b_l_take, mkFn, Va.dget, Va.seq, hg, atI, ixN, modC, divC, hs, hl, outV_set0, hn]
theorem take_cell {L : LH} {n : Nat} {p s : Int} {o : Option Ob} (hn : n < L.length) (hs : 0 < s) (hl : s.natAbs.log2 < 9000 := by decide) :
    ∃ u p' : Int, 0 ≤ u ∧ u < s ∧ F_l_take [.loc n, .d (.int s)] ((L ++ [o]).set n (P1 p)) = .ok (.d (.int u)) ((L ++ [o]).set n (P1 p')) := take_ex (by simp; omega) hs hl
theorem log_small {s : Int} (h : 0 ≤ s) (h2 : s ≤ 100000) : s.natAbs.log2 < 9000 := by
  have : s.natAbs < 2 ^ 9000 := by
    have : s.natAbs ≤ 100000 := by omega
    exact Nat.lt_of_le_of_lt this (by decide +kernel)
  by_cases h0 : s.natAbs = 0
  · rw [h0]; decide
  · exact (Nat.log2_lt h0).mpr this
theorem mixed_ex {c k : Int} {L : LH} (hk : 0 ≤ k) (hk2 : k ≤ 100000) : ∃ u : Int, 0 ≤ u ∧ u < 2147483579 ∧ F_l_mixed [.d (.int c), .d (.int k)] L = .ok (.d (.int u)) L := by
  have lg : ∀ i : Int, 0 ≤ i → i < 2 ^ 64 → i.natAbs.log2 < 64 := fun i h0 h1 => by
    have : i.natAbs < 2 ^ 64 := by omega
    by_cases z : i.natAbs = 0
    · rw [z]; decide
    · exact (Nat.log2_lt z).mpr this
  have a0 : 0 ≤ c % 2147483647 := Int.emod_nonneg _ (by omega)
  have a1 : c % 2147483647 < 2147483647 := Int.emod_lt_of_pos _ (by omega)
  have m1 : mulC (c % 2147483647) 48271 = true := by
    have := lg _ a0 (by omega)
    have h2 := lg 48271 (by omega) (by omega)
    exact decide_eq_true (by omega)
  have m2 : mulC k 69621 = true := by
    have := lg k hk (by omega)
    have h2 := lg 69621 (by omega) (by omega)
    exact decide_eq_true (by omega)
  generalize hn : (c % 2147483647 * 48271 + k * 69621 + 1048583) % 2147483629 = n
  have n0 : 0 ≤ n := by rw [← hn]; exact Int.emod_nonneg _ (by omega)
  have n1 : n < 2147483629 := by rw [← hn]; exact Int.emod_lt_of_pos _ (by omega)
  have m3 : mulC n n = true := by
    have := lg n n0 (by omega)
    exact decide_eq_true (by omega)
  generalize hn2 : (n * n) % 2147483587 = n2
  have p0 : 0 ≤ n2 := by rw [← hn2]; exact Int.emod_nonneg _ (by omega)
  have p1 : n2 < 2147483587 := by rw [← hn2]; exact Int.emod_lt_of_pos _ (by omega)
  have m4 : mulC n2 (n2 + 2) = true := by
    have := lg n2 p0 (by omega)
    have := lg (n2 + 2) (by omega) (by omega)
    exact decide_eq_true (by omega)
  refine ⟨(n2 * (n2 + 2)) % 2147483579, Int.emod_nonneg _ (by omega), Int.emod_lt_of_pos _ (by omega), ?_⟩
  simp [F_l_mixed, b_l_mixed, mkFn, modC, m1, m2, hn, m3, hn2, m4]
theorem log_pow {i : Int} {k : Nat} (h0 : 0 ≤ i) (h : i < 2 ^ k) (hk : 0 < k) : i.natAbs.log2 < k := by
  have : i.natAbs < 2 ^ k := by
    have : ((i.natAbs : Nat) : Int) < ((2 ^ k : Nat) : Int) := by rw [Int.natAbs_of_nonneg h0]; simpa using h
    exact_mod_cast this
  by_cases z : i.natAbs = 0
  · rw [z]; simpa using hk
  · exact (Nat.log2_lt z).mpr this
theorem pile_ex {ns : List Int} {k : Int} {L : LH} (hk : 0 ≤ k) (hk2 : k ≤ 10000) (hl : ns.length ≤ 63) : ∃ p : Int, F_l_pile [.scr ns, .d (.int k)] L = .ok (.lst [.d (.int p)]) L := by
  have cell : ∃ c : Int, (k < (ns.length : Int) → atI (ns.map fun i => Va.d (.int i)) k = some (.d (.int c))) ∧ (¬ k < (ns.length : Int) → c = 0) := by
    by_cases h : k < (ns.length : Int)
    · have hlt : k.toNat < ns.length := by omega
      refine ⟨ns[k.toNat], fun _ => ?_, fun z => absurd h z⟩
      simp [atI, ixN, hk, h, List.getElem?_eq_getElem hlt]
    · exact ⟨0, fun z => absurd z h, fun _ => rfl⟩
  obtain ⟨c, hc1, hc2⟩ := cell
  have loop := forL_inv (g := tN 4) (body := b_l_pile_1)
    (I := fun ws env M => M = L ∧ ∃ (f : Int) (j : Nat) (a : Option Va), env = [some (.scr ns), some (.d (.int k)), some (.d (.int c)), some (.d (.int f)), a] ∧ j + ws.length = 24 ∧ ws = (List.range' j ws.length).map (fun i => Va.d (.int (0 + (i : Nat)))) ∧ 0 ≤ f ∧ f < 2 ^ (31 * j))
    (rngV 0 24) [some (.scr ns), some (.d (.int k)), some (.d (.int c)), some (.d (.int 0)), none] L ⟨rfl, 0, 0, none, rfl, by simp [rngV], by simp [rngV, List.range_eq_range'], by omega, by simp⟩ ?_
  · obtain ⟨env', L', e1, rfl, f, j, a, rfl, h1, h2, h3, h4⟩ := loop
    by_cases hb : c < 10 ^ 18
    · refine ⟨f, ?_⟩
      have hb' : ¬ (1000000000000000000 ≤ c) := by omega
      by_cases h : k < (ns.length : Int)
      · simp [F_l_pile, b_l_pile, mkFnF, h, hc1 h, sFor, e1, powC, hb', sizeLine_eq, settleOb, mapO]
      · have := hc2 h
        subst this
        simp [F_l_pile, b_l_pile, mkFnF, h, sFor, e1, powC, sizeLine_eq, settleOb, mapO]
    · have hb' : 1000000000000000000 ≤ c := by omega
      have h : k < (ns.length : Int) := by
        by_cases h : k < (ns.length : Int)
        · exact h
        · have := hc2 h; omega
      have b1 : mulC (10 ^ 60) (10 ^ 60) = true := by decide +kernel
      have b2 : mulC (10 ^ 120) (10 ^ 60) = true := by decide +kernel
      have b3 : mulC (10 ^ 180) (10 ^ 60) = true := by decide +kernel
      simp only [Int.reducePow] at b1 b2 b3
      exact ⟨_, by simp [F_l_pile, b_l_pile, mkFnF, h, hc1 h, powC, hb', sizeLine_eq, settleOb, mapO, b1, b2, b3, modC]; rfl⟩
  · rintro w r env M ⟨rfl, f, j, a, rfl, h1, h2, h3, h4⟩
    simp only [List.length_cons] at h1 h2
    rw [List.range'_succ, List.map_cons, List.cons.injEq] at h2
    obtain ⟨rfl, h2⟩ := h2
    have hj : j < 24 := by omega
    obtain ⟨u, u0, u1, eu⟩ := mixed_ex (c := c) (k := 7 * k + 100 * (j : Int) + (j : Int) * (j : Int)) (L := M) (by
      have : (0 : Int) ≤ (j : Int) * j := Int.mul_nonneg (by omega) (by omega)
      omega) (by
      have : (j : Int) * j ≤ 24 * 24 := Int.mul_le_mul (by omega) (by omega) (by omega) (by omega)
      omega)
    have lg : ∀ i : Int, 0 ≤ i → i < 2 ^ 31 → i.natAbs.log2 < 31 := fun i h0 h1 => log_pow h0 h1 (by omega)
    have hp : (2 : Int) ^ (31 * j) ≤ 2 ^ 744 := by
      have : (2 : Nat) ^ (31 * j) ≤ 2 ^ 744 := Nat.pow_le_pow_right (by omega) (by omega)
      exact_mod_cast this
    have lf : f.natAbs.log2 < 744 := log_pow h3 (by omega) (by omega)
    have m1 : mulC f 2147483579 = true := by
      have := lg 2147483579 (by omega) (by omega)
      exact decide_eq_true (by omega)
    have m2 : mulC 7 k = true := by
      have := lg k (by omega) (by omega)
      have := lg 7 (by omega) (by omega)
      exact decide_eq_true (by omega)
    have m3 : mulC 100 (j : Int) = true := by
      have := lg j (by omega) (by omega)
      have := lg 100 (by omega) (by omega)
      exact decide_eq_true (by omega)
    have m4 : mulC (j : Int) (j : Int) = true := by
      have := lg j (by omega) (by omega)
      exact decide_eq_true (by omega)
    refine ⟨_, _, rfl, _, _, .inl ?_, rfl, f * 2147483579 + u, j + 1, some (.d (.int (0 + (j : Int)))), rfl, by omega, h2, ?_, ?_⟩
    · simp [b_l_pile_1, m1, m2, m3, m4, eu]
    · have : 0 ≤ f * 2147483579 := Int.mul_nonneg h3 (by omega)
      omega
    · have e : (2 : Int) ^ (31 * (j + 1)) = 2 ^ (31 * j) * 2147483648 := by
        rw [show 31 * (j + 1) = 31 * j + 31 by omega, Int.pow_add]; rfl
      rw [e]
      have : (f + 1) * 2147483579 ≤ 2 ^ (31 * j) * 2147483579 := Int.mul_le_mul_of_nonneg_right (by omega) (by omega)
      have h5 : (0 : Int) < 2 ^ (31 * j) := Int.pow_pos (by omega)
      omega
end L2.HW
namespace L2.HW
open PySem PySem.Spec PyProof.Rows
def Ok (d b : Nat) (x : PyData) : Prop := fine x = true ∧ x.depth ≤ d ∧ x.bulk ≤ b
theorem Ok.mono {d b d' b' : Nat} {x : PyData} (h : Ok d b x) (h1 : d ≤ d') (h2 : b ≤ b') : Ok d' b' x := ⟨h.1, by have := h.2.1; omega, by have := h.2.2; omega⟩
theorem Ok.tuple {d b : Nat} {xs : List PyData} (h : Ok d b (.tuple xs)) : ∀ x ∈ xs, fine x = true ∧ x.depth + 1 ≤ d := by
  intro x hx
  have h1 := h.1
  have h2 := h.2.1
  simp only [fine] at h1
  simp only [PyData.depth] at h2
  have h3 : PyData.depthAll xs ≤ d - 1 := by omega
  exact ⟨fineAll_iff.mp h1 x hx, by have := depthAll_le.mp h3 x hx; omega⟩
end L2.HW
namespace L2.HW
open PySem PySem.Spec PyProof.Rows
theorem seq_nx {f g : SFn} {env env1 : En} {L L1 : LH} {r : Out} (h : f env L = .nx env1 L1) (k : g env1 L1 = r) : sSeq f g env L = r := by
  simp only [u_sSeq, h]; exact k
theorem seq_rt {f g : SFn} {env : En} {L L1 : LH} {w : Va} (h : f env L = .rt w L1) : sSeq f g env L = .rt w L1 := by
  simp only [u_sSeq, h]
theorem for_nx {s : Srcf} {g : Va → En → LH → Res En} {body : SFn} {env env1 : En} {L L1 : LH} {ws : List Va} (hs : s env L = .ok (ws, none) L) (h : forL g body ws env L = .nx env1 L1) : sFor s g body env L = .nx env1 L1 := by
  simp only [sFor, hs, then_ok, lockL_none, h, openOut_nx, openL_none]
theorem fn_rt {np nl : Nat} {body : SFn} {ws : List Va} {L L' : LH} {x : PyData} (hl : ws.length = np) (h : body (ws.map some ++ List.replicate (nl - ws.length) none) L = .rt (.d x) L') (hk : outV L L' (some (.d x)) = .ok (.d x) L := by simp) : mkFn np nl body ws L = .ok (.d x) L := by
  unfold mkFn
  rw [if_pos hl, h]
  simpa using hk
theorem fn_out {np nl : Nat} {body : SFn} {ws : List Va} {L L' L2 : LH} {w u : Va} (hl : ws.length = np) (h : body (ws.map some ++ List.replicate (nl - ws.length) none) L = .rt w L') (hs : settle L' L.length 9 w = some u) (hk : outV L L' (some u) = .ok u L2) : mkFn np nl body ws L = .ok u L2 := by
  unfold mkFn
  rw [if_pos hl, h]
  simp only [hs, hk]
def insK {κ : Type} [DecidableEq κ] (ks : List κ) (k : κ) : List κ := if k ∈ ks then ks else ks ++ [k]
theorem mem_insK {κ : Type} [DecidableEq κ] {ks : List κ} {k x : κ} : x ∈ insK ks k ↔ x ∈ ks ∨ x = k := by
  unfold insK
  split
  · constructor
    · exact .inl
    · rintro (h | rfl)
      · exact h
      · assumption
  · simp
theorem nodup_insK {κ : Type} [DecidableEq κ] {ks : List κ} {k : κ} (h : ks.Nodup) : (insK ks k).Nodup := by
  unfold insK
  split
  · exact h
  · rw [List.nodup_append]
    exact ⟨h, by simp, fun x hx y hy => by have : y = k := by simpa using hy
                                           rw [this]; rintro rfl; contradiction⟩
def once {κ : Type} [DecidableEq κ] (xs : List κ) : List κ := xs.foldl insK []
theorem mem_foldl_insK {κ : Type} [DecidableEq κ] {x : κ} : ∀ (xs ks : List κ), x ∈ xs.foldl insK ks ↔ x ∈ ks ∨ x ∈ xs
  | [], ks => by simp
  | a :: r, ks => by
    rw [List.foldl_cons, mem_foldl_insK r, mem_insK, List.mem_cons, or_assoc]
theorem mem_once {κ : Type} [DecidableEq κ] {x : κ} {xs : List κ} : x ∈ once xs ↔ x ∈ xs := by simp [once, mem_foldl_insK]
theorem len_foldl_insK {κ : Type} [DecidableEq κ] : ∀ (xs ks : List κ), (xs.foldl insK ks).length ≤ ks.length + xs.length
  | [], ks => by simp
  | a :: r, ks => by
    have := len_foldl_insK r (insK ks a)
    have h : (insK ks a).length ≤ ks.length + 1 := by unfold insK; split <;> simp
    simp only [List.foldl_cons, List.length_cons]
    omega
theorem len_once {κ : Type} [DecidableEq κ] (xs : List κ) : (once xs).length ≤ xs.length := by have := len_foldl_insK xs ([] : List κ); unfold once; simpa using this
theorem srcR1_int {fs : En → LH → Res (List Va)} {i : Int} {env : En} {L L1 : LH} (h : fs env L = .ok [.d (.int i)] L1) (rg : -4611686018427387904 ≤ i ∧ i < 4611686018427387904) : srcR1 fs env L = .ok (rngV 0 i.toNat, none) L1 := by
  simp [h, rg]
end L2.HW
namespace L2.HW.G
def Pth (E : Int → Int → Prop) : Int → List Int → Int → Prop
  | x, [], y => x = y
  | x, z :: l, y => E x z ∧ Pth E z l y
section
variable {E : Int → Int → Prop}
theorem pth_app : ∀ {l m : List Int} {x y z : Int}, Pth E x l y → Pth E y m z → Pth E x (l ++ m) z
  | [], _, _, _, _, h, k => by cases h; exact k
  | _ :: _, _, _, _, _, ⟨h1, h2⟩, k => ⟨h1, pth_app h2 k⟩
theorem pth_split : ∀ {l m : List Int} {x z : Int}, Pth E x (l ++ m) z → ∃ y, Pth E x l y ∧ Pth E y m z
  | [], _, x, _, h => ⟨x, rfl, h⟩
  | _ :: _, _, _, _, ⟨h1, h2⟩ => by
    obtain ⟨y, a, b⟩ := pth_split h2
    exact ⟨y, ⟨h1, a⟩, b⟩
theorem pth_last : ∀ {l : List Int} {x y : Int}, Pth E x l y → l ≠ [] → ∃ i, l = i ++ [y]
  | [], _, _, _, h => absurd rfl h
  | [z], _, _, ⟨_, h⟩, _ => by cases h; exact ⟨[], rfl⟩
  | z :: a :: l, _, _, ⟨_, h⟩, _ => by
    obtain ⟨i, e⟩ := pth_last h (by simp)
    exact ⟨z :: i, by rw [e]; rfl⟩
theorem pth_at {l : List Int} {x y q : Int} (h : Pth E x l y) (hq : q ∈ l) : ∃ l1 l2, l = l1 ++ l2 ∧ Pth E x l1 q ∧ Pth E q l2 y ∧ l1 ≠ [] := by
  obtain ⟨a, b, e⟩ := List.append_of_mem hq
  have e2 : l = (a ++ [q]) ++ b := by rw [e]; simp
  rw [e2] at h
  obtain ⟨q', h1, h2⟩ := pth_split h
  obtain ⟨i, e3⟩ := pth_last h1 (by simp)
  obtain ⟨_, e4⟩ := List.append_inj' e3 rfl
  have : q = q' := by simpa using e4
  subst this
  exact ⟨a ++ [q], b, e2, h1, h2, by simp⟩
theorem pth_mono {F : Int → Int → Prop} (k : ∀ x y, E x y → F x y) : ∀ {l : List Int} {x y : Int}, Pth E x l y → Pth F x l y
  | [], _, _, h => h
  | _ :: _, _, _, ⟨h1, h2⟩ => ⟨k _ _ h1, pth_mono k h2⟩
variable {ρ : Int → Nat} (hρ : ∀ x y, E x y → ρ x < ρ y)
include hρ
theorem rk_mem : ∀ {l : List Int} {x y : Int}, Pth E x l y → ∀ q ∈ l, ρ x < ρ q
  | [], _, _, _, _, hq => nomatch hq
  | z :: l, x, y, ⟨h1, h2⟩, q, hq => by
    have := hρ _ _ h1
    rcases List.mem_cons.mp hq with rfl | hq
    · exact this
    · have := rk_mem h2 q hq; omega
theorem rk_end {l : List Int} {x y : Int} (h : Pth E x l y) : ρ x ≤ ρ y ∧ (l ≠ [] → ρ x < ρ y) := by
  by_cases e : l = []
  · subst e; cases h; exact ⟨Nat.le_refl _, fun z => absurd rfl z⟩
  · obtain ⟨i, e2⟩ := pth_last h e
    have := rk_mem hρ h y (by rw [e2]; simp)
    exact ⟨by omega, fun _ => this⟩
theorem rk_le : ∀ {l : List Int} {x y : Int}, Pth E x l y → ∀ q ∈ l, ρ q ≤ ρ y
  | [], _, _, _, _, hq => nomatch hq
  | z :: l, x, y, ⟨h1, h2⟩, q, hq => by
    rcases List.mem_cons.mp hq with rfl | hq
    · exact (rk_end hρ h2).1
    · exact rk_le h2 q hq
theorem rk_lt {l : List Int} {x y : Int} (h : Pth E x l y) : ∀ q ∈ l.dropLast, ρ q < ρ y := fun q hq => by
  have hm := List.dropLast_subset l hq
  obtain ⟨l1, l2, e, h1, h2, n⟩ := pth_at h hm
  have := rk_end hρ h2
  refine this.2 fun e2 => ?_
  have : Pth E q l2 y := h2
  rw [e2] at this
  obtain rfl : q = y := this
  subst e2
  rw [List.append_nil] at e
  obtain ⟨i, e3⟩ := pth_last h (by rintro rfl; cases hm)
  rw [e3, List.dropLast_concat] at hq
  -- q twice
  obtain ⟨a, b, e4⟩ := List.append_of_mem hq
  have h5 : Pth E x (a ++ q :: (b ++ [q])) q := by rw [e3, e4] at h; simpa using h
  obtain ⟨q', h6, h7⟩ := pth_split h5
  have := rk_mem hρ h7.2 q (by simp)
  omega
theorem pth_nodup : ∀ {l : List Int} {x y : Int}, Pth E x l y → (x :: l).Nodup
  | [], _, _, _ => by simp
  | z :: l, x, y, h => by
    have ih := pth_nodup h.2
    refine List.nodup_cons.mpr ⟨fun hm => ?_, ih⟩
    have := rk_mem hρ h x hm
    omega
theorem diverge : ∀ {l m : List Int} {x y : Int}, Pth E x l y → Pth E x m y → l ≠ m → ∃ w c d l' m', c ≠ d ∧ Pth E w (c :: l') y ∧ Pth E w (d :: m') y ∧ ρ x ≤ ρ w
  | [], [], _, _, _, _, n => absurd rfl n
  | [], z :: m, x, y, h, k, _ => by
    cases h
    have := (rk_end hρ k).2 (by simp)
    omega
  | z :: l, [], x, y, h, k, _ => by
    cases k
    have := (rk_end hρ h).2 (by simp)
    omega
  | z :: l, z' :: m, x, y, h, k, n => by
    by_cases e : z = z'
    · subst e
      obtain ⟨w, c, d, l', m', h1, h2, h3, h4⟩ := diverge h.2 k.2 (fun e => n (by rw [e]))
      have := hρ _ _ h.1
      exact ⟨w, c, d, l', m', h1, h2, h3, by omega⟩
    · exact ⟨x, z, z', l, m, e, h, k, Nat.le_refl _⟩
theorem back_uniq {y : Int} (U : ∀ q, ρ q ≤ ρ y → ∀ a c, E a q → E c q → a = c) : ∀ (n : Nat) {l m : List Int} {x : Int}, l.length ≤ n → Pth E x l y → Pth E x m y → l = m := by
  intro n
  induction n generalizing y with
  | zero =>
    intro l m x hn h k
    have : l = [] := List.length_eq_zero_iff.mp (by omega)
    subst this
    cases h
    by_cases e : m = []
    · exact e.symm
    · have := (rk_end hρ k).2 e; omega
  | succ n ih =>
    intro l m x hn h k
    by_cases e : l = []
    · subst e
      cases h
      by_cases e : m = []
      · exact e.symm
      · have := (rk_end hρ k).2 e; omega
    · by_cases e2 : m = []
      · subst e2
        cases k
        have := (rk_end hρ h).2 e; omega
      · obtain ⟨i, rfl⟩ := pth_last h e
        obtain ⟨j, rfl⟩ := pth_last k e2
        obtain ⟨a, h1, h2⟩ := pth_split h
        obtain ⟨c, k1, k2⟩ := pth_split k
        have : a = c := U y (Nat.le_refl _) a c h2.1 k2.1
        subst this
        have ra := hρ _ _ h2.1
        rw [ih (fun q hq => U q (by omega)) (by simp at hn; omega) h1 k1]
end
structure Cr (E : Int → Int → Prop) (b e : Int) (S A1 A2 R1 R2 B Q : List Int) (w x v z : Int) : Prop where
  s : Pth E b S w
  a1 : Pth E w A1 x
  a2 : Pth E x A2 v
  r1 : Pth E v R1 z
  r2 : Pth E z R2 e
  pb : Pth E w B v
  pq : Pth E x Q z
  n1 : A1 ≠ []
  n2 : A2 ≠ []
  n3 : R1 ≠ []
  nd : (b :: (S ++ A1 ++ A2 ++ R1 ++ R2 ++ B.dropLast ++ Q.dropLast)).Nodup
def Crosses (E : Int → Int → Prop) (b e : Int) : Prop := ∃ S A1 A2 R1 R2 B Q w x v z, Cr E b e S A1 A2 R1 R2 B Q w x v z
theorem first_in {E : Int → Int → Prop} (p : Int → Prop) : ∀ {l : List Int} {x y : Int}, Pth E x l y → (∃ q ∈ x :: l, p q) → ∃ l1 l2 z, l = l1 ++ l2 ∧ Pth E x l1 z ∧ Pth E z l2 y ∧ p z ∧ ∀ q ∈ (x :: l1).dropLast, ¬ p q
  | [], x, y, h, ⟨q, hq, hp⟩ => by
    have : q = x := by simpa using hq
    subst this
    exact ⟨[], [], q, rfl, rfl, h, hp, by simp⟩
  | c :: l, x, y, h, ⟨q, hq, hp⟩ => by
    by_cases px : p x
    · exact ⟨[], c :: l, x, rfl, rfl, h, px, by simp⟩
    · have : ∃ q ∈ c :: l, p q := by
        rcases List.mem_cons.mp hq with rfl | hq
        · exact absurd hp px
        · exact ⟨q, hq, hp⟩
      obtain ⟨l1, l2, z, e, h1, h2, h3, h4⟩ := first_in p h.2 this
      refine ⟨c :: l1, l2, z, by rw [e]; rfl, ⟨h.1, h1⟩, h2, h3, fun q hq => ?_⟩
      rw [List.dropLast_cons_of_ne_nil (by simp)] at hq
      rcases List.mem_cons.mp hq with rfl | hq
      · exact px
      · exact h4 q hq
end L2.HW.G
namespace L2.HW.G
theorem min_ex {P : Nat → Prop} (h : ∃ n, P n) : ∃ n, P n ∧ ∀ m, m < n → ¬ P m := by
  obtain ⟨n, hn⟩ := h
  induction n using Nat.strongRecOn with
  | ind n ih =>
    by_cases c : ∃ m, m < n ∧ P m
    · obtain ⟨m, h1, h2⟩ := c
      exact ih m h1 h2
    · exact ⟨n, hn, fun m h1 h2 => c ⟨m, h1, h2⟩⟩
theorem max_ex {P : Nat → Prop} {N : Nat} (h : ∃ n, P n) (hb : ∀ n, P n → n ≤ N) : ∃ n, P n ∧ ∀ m, n < m → ¬ P m := by
  obtain ⟨k, hk, hm⟩ := min_ex (P := fun k => P (N - k) ∧ k ≤ N) (by
    obtain ⟨n, hn⟩ := h
    have := hb n hn
    exact ⟨N - n, by rw [show N - (N - n) = n by omega]; exact hn, by omega⟩)
  refine ⟨N - k, hk.1, fun m h1 h2 => ?_⟩
  have := hb m h2
  exact hm (N - m) (by omega) ⟨by rw [show N - (N - m) = m by omega]; exact h2, by omega⟩
section
variable {E : Int → Int → Prop}
theorem pth_fun : ∀ {l : List Int} {x y y' : Int}, Pth E x l y → Pth E x l y' → y = y'
  | [], _, _, _, h, k => h.symm.trans k
  | _ :: _, _, _, _, h, k => pth_fun h.2 k.2
theorem last_mem {l : List Int} {x y : Int} (h : Pth E x l y) : y ∈ x :: l := by
  by_cases e : l = []
  · subst e; cases h; simp
  · obtain ⟨i, rfl⟩ := pth_last h e
    simp
theorem head_pre {l l1 l2 : List Int} {c : Int} {t : List Int} (e : l = l1 ++ l2) (n : l1 ≠ []) (h : l = c :: t) : ∃ t', l1 = c :: t' := by
  cases l1 with
  | nil => exact absurd rfl n
  | cons a t' =>
    rw [e] at h
    have : a = c := by simpa using (List.cons.inj h).1
    exact ⟨t', by rw [this]⟩
variable {b e : Int} {ρ : Int → Nat} (hρ : ∀ x y, E x y → ρ x < ρ y) (reach : ∀ x y, E x y → (∃ l, Pth E b l x) ∧ ∃ l, Pth E y l e)
  (irr : ∀ x, x ≠ b → x ≠ e → ∀ a c, E a x → E x c → (∃ a', a' ≠ a ∧ E a' x) ∨ ∃ c', c' ≠ c ∧ E x c')
include hρ reach
theorem no_in (a : Int) : ¬ E a b := fun h => by
  obtain ⟨⟨l, k⟩, _⟩ := reach a b h
  have := (rk_end hρ k).1
  have := hρ _ _ h
  omega
theorem no_out (c : Int) : ¬ E e c := fun h => by
  obtain ⟨_, l, k⟩ := reach e c h
  have := (rk_end hρ k).1
  have := hρ _ _ h
  omega
include irr
theorem cross_at {w x d v : Int} {l m : List Int} (low : ∀ q, ρ q < ρ v → ∀ a c, E a q → E c q → a = c) (hx : Pth E w (x :: l) v) (hd : Pth E w (d :: m) v) (hne : x ≠ d) (hxv : x ≠ v)
    (mx : ∀ w' c d l m, ρ w < ρ w' → c ≠ d → Pth E w' (c :: l) v → Pth E w' (d :: m) v → False) : Crosses E b e := by
  have rwx := hρ _ _ hx.1
  have uq : ∀ {q p : Int} {l m : List Int}, ρ q < ρ v → Pth E p l q → Pth E p m q → l = m := fun {q p l m} hq h k => back_uniq hρ (fun q' h' => low q' (by omega)) l.length (Nat.le_refl _) h k
  cases l with
  | nil => exact absurd hx.2 hxv
  | cons t l2 =>
    have hl : Pth E x (t :: l2) v := hx.2
    have hxt : E x t := hl.1
    have rxv := (rk_end hρ hl).2 (by simp)
    obtain ⟨⟨S, hS⟩, _⟩ := reach w x hx.1
    obtain ⟨y, hyt, hxy⟩ : ∃ y, y ≠ t ∧ E x y := by
      rcases irr x (fun z => no_in hρ reach w (z ▸ hx.1)) (fun z => no_out hρ reach t (z ▸ hxt)) w t hx.1 hxt with ⟨a', h1, h2⟩ | h
      · exact absurd (low x rxv a' w h2 hx.1) h1
      · exact h
    obtain ⟨_, Q0, hQ0⟩ := reach x y hxy
    have hv : v ∉ y :: Q0 := fun hm => by
      obtain ⟨l1, l3, e1, h1, _, n1⟩ := pth_at (l := y :: Q0) (x := x) ⟨hxy, hQ0⟩ hm
      obtain ⟨t', rfl⟩ := head_pre e1 n1 rfl
      exact mx x y t t' l2 rwx hyt h1 hl
    obtain ⟨R, hR⟩ : ∃ R, Pth E v R e := by
      obtain ⟨i, e1⟩ := pth_last hx (by simp)
      rw [e1] at hx
      obtain ⟨a, _, h2⟩ := pth_split hx
      exact (reach a v h2.1).2
    obtain ⟨Q1, Q2, z, eQ, hQ1, _, hz, hnot⟩ := first_in (fun q => q ∈ v :: R) hQ0 ⟨e, last_mem hQ0, last_mem hR⟩
    have zQ : z ∈ y :: Q0 := by
      have := last_mem hQ1
      rw [eQ]
      rcases List.mem_cons.mp this with h | h
      · rw [h]; simp
      · exact List.mem_cons_of_mem _ (List.mem_append_left _ h)
    have hzR : z ∈ R := by
      rcases List.mem_cons.mp hz with rfl | h
      · exact absurd zQ hv
      · exact h
    obtain ⟨R1, R2, eR, hR1, hR2, nR1⟩ := pth_at hR hzR
    have hQ : Pth E x (y :: Q1) z := ⟨hxy, hQ1⟩
    have hP : Pth E b (S ++ [x] ++ (t :: l2) ++ R1 ++ R2) e := pth_app (pth_app (pth_app (pth_app hS ⟨hx.1, rfl⟩) hl) hR1) hR2
    have ndP := pth_nodup hρ hP
    have ndB := pth_nodup hρ hd
    have ndQ := pth_nodup hρ hQ
    have rkS : ∀ q ∈ b :: S, ρ q ≤ ρ w := fun q hq => by
      rcases List.mem_cons.mp hq with rfl | hq
      · exact (rk_end hρ hS).1
      · exact rk_le hρ hS q hq
    have rkR : ∀ q ∈ R1 ++ R2, ρ v < ρ q := fun q hq => rk_mem hρ hR q (by rw [eR]; exact hq)
    -- the detour by d
    have bd : ∀ q ∈ (d :: m).dropLast, ρ w < ρ q ∧ ρ q < ρ v := fun q hq => ⟨rk_mem hρ hd q (List.dropLast_subset _ hq), rk_lt hρ hd q hq⟩
    have bA : ∀ q ∈ (d :: m).dropLast, q ∉ x :: t :: l2 := fun q hq hm => by
      obtain ⟨l1, _, e1, h1, _, n1⟩ := pth_at hx hm
      obtain ⟨m1, _, e2, h2, _, n2⟩ := pth_at hd (List.dropLast_subset _ hq)
      obtain ⟨t1, rfl⟩ := head_pre e1 n1 rfl
      obtain ⟨t2, rfl⟩ := head_pre e2 n2 rfl
      have := uq (bd q hq).2 h1 h2
      exact hne (List.cons.inj this).1
    -- the detour by y
    have qd : ∀ q ∈ (y :: Q1).dropLast, ρ x < ρ q := fun q hq => rk_mem hρ hQ q (List.dropLast_subset _ hq)
    have qA : ∀ q ∈ (y :: Q1).dropLast, q ∉ t :: l2 := fun q hq hm => by
      have nv : q ≠ v := fun z => hnot q hq (by rw [z]; simp)
      obtain ⟨i, ei⟩ := pth_last hl (by simp)
      have hq2 : q ∈ (t :: l2).dropLast := by
        rw [ei, List.dropLast_concat]
        rw [ei] at hm
        rcases List.mem_append.mp hm with h | h
        · exact h
        · exact absurd (by simpa using h) nv
      have rq := rk_lt hρ hl q hq2
      obtain ⟨l1, _, e1, h1, _, n1⟩ := pth_at hl hm
      obtain ⟨m1, _, e2, h2, _, n2⟩ := pth_at hQ (List.dropLast_subset _ hq)
      obtain ⟨t1, rfl⟩ := head_pre e1 n1 rfl
      obtain ⟨t2, rfl⟩ := head_pre e2 n2 rfl
      have := uq rq h1 h2
      exact hyt (List.cons.inj this).1.symm
    have bq : ∀ q ∈ (d :: m).dropLast, q ∉ (y :: Q1).dropLast := fun q hq hm => by
      obtain ⟨m1, _, e1, h1, _, n1⟩ := pth_at hd (List.dropLast_subset _ hq)
      obtain ⟨m2, _, e2, h2, _, n2⟩ := pth_at hQ (List.dropLast_subset _ hm)
      obtain ⟨t1, rfl⟩ := head_pre e1 n1 rfl
      have := uq (bd q hq).2 h1 (show Pth E w (x :: m2) q from ⟨hx.1, h2⟩)
      exact hne (List.cons.inj this).1.symm
    refine ⟨S, [x], t :: l2, R1, R2, d :: m, y :: Q1, w, x, v, z, hS, ⟨hx.1, rfl⟩, hl, hR1, hR2, hd, hQ, by simp, by simp, nR1, ?_⟩
    have e1 : b :: (S ++ [x] ++ (t :: l2) ++ R1 ++ R2 ++ (d :: m).dropLast ++ (y :: Q1).dropLast) = (b :: (S ++ [x] ++ (t :: l2) ++ R1 ++ R2)) ++ (d :: m).dropLast ++ (y :: Q1).dropLast := by simp
    have inP : ∀ q, q ∈ b :: (S ++ [x] ++ (t :: l2) ++ R1 ++ R2) → q ∈ b :: S ∨ q ∈ x :: t :: l2 ∨ q ∈ R1 ++ R2 := fun q hq => by
      simp only [List.mem_cons, List.mem_append, List.not_mem_nil, or_false] at hq ⊢
      rcases hq with h | ((((h | h) | h) | h) | h)
      · exact .inl (.inl h)
      · exact .inl (.inr h)
      · exact .inr (.inl (.inl h))
      · exact .inr (.inl (.inr h))
      · exact .inr (.inr (.inl h))
      · exact .inr (.inr (.inr h))
    rw [e1, List.nodup_append, List.nodup_append]
    refine ⟨⟨ndP, (List.dropLast_sublist _).nodup (List.nodup_cons.mp ndB).2, fun a ha c hc hac => ?_⟩, (List.dropLast_sublist _).nodup (List.nodup_cons.mp ndQ).2, fun a ha c hc hac => ?_⟩
    · subst hac
      have r := bd a hc
      rcases inP a ha with h | h | h
      · have := rkS a h; omega
      · exact bA a hc h
      · have := rkR a h; omega
    · subst hac
      have r := qd a hc
      rcases List.mem_append.mp ha with ha | ha
      · rcases inP a ha with h | h | h
        · have := rkS a h; omega
        · rcases List.mem_cons.mp h with rfl | h
          · omega
          · exact qA a hc h
        · exact hnot a hc (List.mem_cons_of_mem _ (by rw [eR]; exact h))
      · exact bq a ha hc
theorem crosses_of {x1 y1 x2 y2 : Int} (h1 : E x1 y1) (h2 : E x2 y2) (hne : ¬ (x1 = x2 ∧ y1 = y2)) : Crosses E b e := by
  -- some place has two roads in
  have two : ∃ n v a c, ρ v = n ∧ a ≠ c ∧ E a v ∧ E c v := by
    refine Classical.byContradiction fun no => ?_
    have U : ∀ q a c, E a q → E c q → a = c := fun q a c ha hc => Classical.byContradiction fun z => no ⟨_, q, a, c, rfl, z, ha, hc⟩
    have uq : ∀ {q p : Int} {l m : List Int}, Pth E p l q → Pth E p m q → l = m := fun {q p l m} h k => back_uniq hρ (fun q' _ => U q') l.length (Nat.le_refl _) h k
    obtain ⟨⟨s, hs⟩, t, ht⟩ := reach x1 y1 h1
    have hp : Pth E b (s ++ y1 :: t) e := pth_app hs ⟨h1, ht⟩
    obtain ⟨i, ei⟩ := pth_last hp (by simp)
    rw [ei] at hp
    obtain ⟨u, hu1, hu2⟩ := pth_split hp
    have hue : E u e := hu2.1
    by_cases ub : u = b
    · subst ub
      have all : ∀ p q, E p q → p = u ∧ q = e := fun p q hpq => by
        obtain ⟨⟨s, hs⟩, t, ht⟩ := reach p q hpq
        have h3 : Pth E u (s ++ q :: t) e := pth_app hs ⟨hpq, ht⟩
        have := uq h3 (show Pth E u [e] e from ⟨hue, rfl⟩)
        cases s with
        | nil =>
          have hpu : u = p := hs
          have : q = e := by simpa using (List.cons.inj (by simpa using this)).1
          exact ⟨hpu.symm, this⟩
        | cons a s => simp at this
      obtain ⟨a1, a2⟩ := all _ _ h1
      obtain ⟨b1, b2⟩ := all _ _ h2
      exact hne ⟨a1.trans b1.symm, a2.trans b2.symm⟩
    · have une : u ≠ e := fun z => no_out hρ reach e (z ▸ hue)
      have ni : i ≠ [] := by
        rintro rfl
        exact ub (show b = u from hu1).symm
      obtain ⟨j, ej⟩ := pth_last hu1 ni
      rw [ej] at hu1
      obtain ⟨a, _, ha⟩ := pth_split hu1
      rcases irr u ub une a e ha.1 hue with ⟨a', k1, k2⟩ | ⟨c', k1, k2⟩
      · exact k1 (U u a' a k2 ha.1)
      · obtain ⟨_, r, hr⟩ := reach u c' k2
        have := uq (show Pth E u (c' :: r) e from ⟨k2, hr⟩) (show Pth E u [e] e from ⟨hue, rfl⟩)
        exact k1 (List.cons.inj this).1
  obtain ⟨n, ⟨v, u1, u2, rfl, hu, k1, k2⟩, hmin⟩ := min_ex two
  have low : ∀ q, ρ q < ρ v → ∀ a c, E a q → E c q → a = c := fun q hq a c ha hc => Classical.byContradiction fun z => hmin _ hq ⟨q, a, c, rfl, z, ha, hc⟩
  have div : ∃ n w c d l m, ρ w = n ∧ c ≠ d ∧ Pth E w (c :: l) v ∧ Pth E w (d :: m) v := by
    obtain ⟨⟨s1, p1⟩, _⟩ := reach u1 v k1
    obtain ⟨⟨s2, p2⟩, _⟩ := reach u2 v k2
    obtain ⟨w, c, d, l, m, h3, h4, h5, _⟩ := diverge hρ (l := s1 ++ [v]) (m := s2 ++ [v]) (pth_app p1 ⟨k1, rfl⟩) (pth_app p2 ⟨k2, rfl⟩) (fun z => by
      have := List.append_cancel_right z
      subst this
      exact hu (pth_fun p1 p2))
    exact ⟨_, w, c, d, l, m, rfl, h3, h4, h5⟩
  obtain ⟨n, ⟨w, c, d, l, m, rfl, h3, h4, h5⟩, hmax⟩ := max_ex (N := ρ v) div (by
    rintro n ⟨w, c, d, l, m, rfl, _, h4, _⟩
    exact (rk_end hρ h4).1)
  have mx : ∀ w' c d l m, ρ w < ρ w' → c ≠ d → Pth E w' (c :: l) v → Pth E w' (d :: m) v → False := fun w' c d l m h a b c' => hmax _ h ⟨w', c, d, l, m, rfl, a, b, c'⟩
  by_cases cv : c = v
  · exact cross_at hρ reach irr low h5 h4 h3.symm (fun z => h3 (cv.trans z.symm)) mx
  · exact cross_at hρ reach irr low h4 h5 h3 cv mx
end
end L2.HW.G
namespace L2.HW.G
structure Short (E E' : Int → Int → Prop) (p a c : Int) : Prop where
  inn : ∀ x, E x p → x = a
  out : ∀ y, E p y → y = c
  keep : ∀ x y, E x y → x ≠ p → y ≠ p → E' x y
  new : E' a c
  ea : E a p
  ec : E p c
section
variable {E E' : Int → Int → Prop} {p a c : Int} {ρ : Int → Nat} (hρ : ∀ x y, E x y → ρ x < ρ y) (sh : Short E E' p a c)
include hρ sh
theorem sh_ne : a ≠ p ∧ c ≠ p := by
  have h1 := hρ _ _ sh.ea
  have h2 := hρ _ _ sh.ec
  exact ⟨fun z => by rw [z] at h1; omega, fun z => by rw [z] at h2; omega⟩
theorem contract : ∀ (n : Nat) {l : List Int} {x y : Int}, l.length ≤ n → Pth E x l y → x ≠ p → y ≠ p → Pth E' x (l.filter (fun q => decide (q ≠ p))) y
  | 0, l, x, y, hn, h, _, _ => by
    have : l = [] := List.length_eq_zero_iff.mp (by omega)
    subst this
    exact h
  | n + 1, [], x, y, hn, h, _, _ => h
  | n + 1, z :: l, x, y, hn, ⟨h1, h2⟩, hx, hy => by
    obtain ⟨_, cp⟩ := sh_ne hρ sh
    simp only [List.length_cons] at hn
    by_cases zp : z = p
    · rw [zp] at h1 h2
      have xa := sh.inn x h1
      rw [List.filter_cons_of_neg (by simp [zp])]
      cases l with
      | nil => exact absurd (show p = y from h2).symm hy
      | cons z' l' =>
        have zc := sh.out z' h2.1
        have h3 := h2.2
        rw [zc] at h3
        simp only [List.length_cons] at hn
        rw [zc, List.filter_cons_of_pos (by simpa using cp), xa]
        exact ⟨sh.new, contract n (by omega) h3 cp hy⟩
    · rw [List.filter_cons_of_pos (by simpa using zp)]
      exact ⟨sh.keep x z h1 hx zp, contract n (by omega) h2 zp hy⟩
end
theorem head_step {E : Int → Int → Prop} {x y : Int} {l : List Int} (h : Pth E x l y) (n : l ≠ []) : ∃ d t, l = d :: t ∧ E x d := by
  cases l with
  | nil => exact absurd rfl n
  | cons d t => exact ⟨d, t, rfl, h.1⟩
theorem last_step {E : Int → Int → Prop} {x y : Int} {l : List Int} (h : Pth E x l y) (n : l ≠ []) : ∃ d, d ∈ x :: l.dropLast ∧ E d y := by
  obtain ⟨i, rfl⟩ := pth_last h n
  obtain ⟨d, h1, h2⟩ := pth_split h
  rw [List.dropLast_concat]
  exact ⟨d, last_mem h1, h2.1⟩
theorem last_in {E : Int → Int → Prop} {x y : Int} {l : List Int} (h : Pth E x l y) (n : l ≠ []) : y ∈ l := by
  obtain ⟨i, rfl⟩ := pth_last h n
  simp
theorem filter_last {p y : Int} {l : List Int} {E : Int → Int → Prop} {x : Int} (h : Pth E x l y) (hy : y ≠ p) : (l.filter fun q => decide (q ≠ p)).dropLast = l.dropLast.filter fun q => decide (q ≠ p) := by
  by_cases n : l = []
  · subst n; rfl
  · obtain ⟨i, rfl⟩ := pth_last h n
    rw [List.filter_append, List.dropLast_concat, List.filter_cons_of_pos (by simpa using hy)]
    simp
theorem nd_two {l m n : List Int} {q : Int} (h : (l ++ m ++ n).Nodup) (h1 : q ∈ l) (h2 : q ∈ n) : False := by
  rw [List.nodup_append] at h
  exact h.2.2 q (List.mem_append_left _ h1) q h2 rfl
theorem cr_contract {E E' : Int → Int → Prop} {p a c b e : Int} {ρ : Int → Nat} (hρ : ∀ x y, E x y → ρ x < ρ y) (sh : Short E E' p a c) (hb : b ≠ p) (he : e ≠ p) (h : Crosses E b e) : Crosses E' b e := by
  obtain ⟨S, A1, A2, R1, R2, B, Q, w, x, v, z, C⟩ := h
  have r1 := (rk_end hρ C.a1).2 C.n1
  have r2 := (rk_end hρ C.a2).2 C.n2
  have r3 := (rk_end hρ C.r1).2 C.n3
  have nB : B ≠ [] := by rintro rfl; have : w = v := C.pb; subst this; omega
  have nQ : Q ≠ [] := by rintro rfl; have : x = z := C.pq; subst this; omega
  have nd := (List.nodup_cons.mp C.nd).2
  have xA := last_in C.a1 C.n1
  have vA := last_in C.a2 C.n2
  have zR := last_in C.r1 C.n3
  -- pairs of parts
  have dA1A2 : ∀ q, q ∈ A1 → q ∈ A2 → False := fun q h1 h2 => by
    have : ((S ++ A1) ++ [] ++ A2).Nodup := by
      simp only [List.append_nil]
      exact List.Nodup.sublist (by simp only [List.append_assoc]; exact (List.Sublist.refl S).append ((List.Sublist.refl A1).append (List.sublist_append_left A2 _))) nd
    exact nd_two this (List.mem_append_right _ h1) h2
  have dP : ∀ q, q ∈ A1 ∨ q ∈ A2 ∨ q ∈ R1 → (q ∈ B.dropLast ∨ q ∈ Q.dropLast) → False := fun q h1 h2 => by
    have nd2 : ((S ++ A1 ++ A2 ++ R1 ++ R2) ++ [] ++ (B.dropLast ++ Q.dropLast)).Nodup := by simpa using nd
    refine nd_two (q := q) nd2 ?_ (List.mem_append.mpr h2)
    simp only [List.mem_append]
    rcases h1 with h | h | h
    · exact .inl (.inl (.inl (.inr h)))
    · exact .inl (.inl (.inr h))
    · exact .inl (.inr h)
  have dA2R1 : ∀ q, q ∈ A2 → q ∈ R1 → False := fun q h1 h2 => by
    have := rk_le hρ C.a2 q h1
    have := rk_mem hρ C.r1 q h2
    omega
  have inB : ∀ q, q ∈ B → q = v ∨ q ∈ B.dropLast := fun q hq => by
    obtain ⟨i, rfl⟩ := pth_last C.pb nB
    rw [List.dropLast_concat]
    rcases List.mem_append.mp hq with h | h
    · exact .inr h
    · exact .inl (by simpa using h)
  have inQ : ∀ q, q ∈ Q → q = z ∨ q ∈ Q.dropLast := fun q hq => by
    obtain ⟨i, rfl⟩ := pth_last C.pq nQ
    rw [List.dropLast_concat]
    rcases List.mem_append.mp hq with h | h
    · exact .inr h
    · exact .inl (by simpa using h)
  have wp : w ≠ p := by
    rintro rfl
    obtain ⟨d1, t1, e1, h1⟩ := head_step C.a1 C.n1
    obtain ⟨d2, t2, e2, h2⟩ := head_step C.pb nB
    have := sh.out _ h1
    have := sh.out _ h2
    have hd : d2 = d1 := by omega
    have m1 : d1 ∈ A1 := by rw [e1]; simp
    have m2 : d1 ∈ B := by rw [e2, hd]; simp
    rcases inB d1 m2 with h | h
    · exact dA1A2 d1 m1 (h ▸ vA)
    · exact dP d1 (.inl m1) (.inl h)
  have xp : x ≠ p := by
    rintro rfl
    obtain ⟨d1, t1, e1, h1⟩ := head_step C.a2 C.n2
    obtain ⟨d2, t2, e2, h2⟩ := head_step C.pq nQ
    have := sh.out _ h1
    have := sh.out _ h2
    have hd : d2 = d1 := by omega
    have m1 : d1 ∈ A2 := by rw [e1]; simp
    have m2 : d1 ∈ Q := by rw [e2, hd]; simp
    rcases inQ d1 m2 with h | h
    · exact dA2R1 d1 m1 (h ▸ zR)
    · exact dP d1 (.inr (.inl m1)) (.inr h)
  have vp : v ≠ p := by
    rintro rfl
    obtain ⟨d1, m1, h1⟩ := last_step C.a2 C.n2
    obtain ⟨d2, m2, h2⟩ := last_step C.pb nB
    have := sh.inn _ h1
    have := sh.inn _ h2
    have hd : d2 = d1 := by omega
    subst hd
    have rx : ρ x ≤ ρ d2 := by
      rcases List.mem_cons.mp m1 with h | h
      · rw [h]; exact Nat.le_refl _
      · exact Nat.le_of_lt (rk_mem hρ C.a2 d2 (List.dropLast_subset _ h))
    rcases List.mem_cons.mp m2 with h | h
    · rw [h] at rx; omega
    · rcases List.mem_cons.mp m1 with h' | h'
      · exact dP d2 (.inl (h' ▸ xA)) (.inl h)
      · exact dP d2 (.inr (.inl (List.dropLast_subset _ h'))) (.inl h)
  have zp : z ≠ p := by
    rintro rfl
    obtain ⟨d1, m1, h1⟩ := last_step C.r1 C.n3
    obtain ⟨d2, m2, h2⟩ := last_step C.pq nQ
    have := sh.inn _ h1
    have := sh.inn _ h2
    have hd : d2 = d1 := by omega
    subst hd
    have rx : ρ v ≤ ρ d2 := by
      rcases List.mem_cons.mp m1 with h | h
      · rw [h]; exact Nat.le_refl _
      · exact Nat.le_of_lt (rk_mem hρ C.r1 d2 (List.dropLast_subset _ h))
    rcases List.mem_cons.mp m2 with h | h
    · rw [h] at rx; omega
    · rcases List.mem_cons.mp m1 with h' | h'
      · exact dP d2 (.inr (.inl (h' ▸ vA))) (.inr h)
      · exact dP d2 (.inr (.inr (List.dropLast_subset _ h'))) (.inr h)
  have ne : ∀ {l : List Int} {q : Int}, q ∈ l → q ≠ p → (l.filter fun q => decide (q ≠ p)) ≠ [] := fun {l q} h n hh => by
    have : q ∈ l.filter fun q => decide (q ≠ p) := List.mem_filter.mpr ⟨h, by simpa using n⟩
    rw [hh] at this
    cases this
  have con := fun {l : List Int} {x y : Int} (h : Pth E x l y) (hx : x ≠ p) (hy : y ≠ p) => contract hρ sh l.length (Nat.le_refl _) h hx hy
  refine ⟨_, _, _, _, _, _, _, w, x, v, z, con C.s hb wp, con C.a1 wp xp, con C.a2 xp vp, con C.r1 vp zp, con C.r2 zp he, con C.pb wp vp, con C.pq xp zp, ne xA xp, ne vA vp, ne zR zp, ?_⟩
  rw [filter_last C.pb vp, filter_last C.pq zp]
  have : b :: ((S.filter fun q => decide (q ≠ p)) ++ (A1.filter fun q => decide (q ≠ p)) ++ (A2.filter fun q => decide (q ≠ p)) ++ (R1.filter fun q => decide (q ≠ p)) ++ (R2.filter fun q => decide (q ≠ p)) ++ (B.dropLast.filter fun q => decide (q ≠ p)) ++ (Q.dropLast.filter fun q => decide (q ≠ p))) = (b :: (S ++ A1 ++ A2 ++ R1 ++ R2 ++ B.dropLast ++ Q.dropLast)).filter fun q => decide (q ≠ p) := by
    rw [List.filter_cons_of_pos (by simpa using hb)]
    simp only [List.filter_append]
  rw [this]
  exact List.Nodup.sublist List.filter_sublist C.nd
theorem single_no {E : Int → Int → Prop} {b e u v : Int} (h : ∀ x y, E x y → x = u ∧ y = v) : ¬ Crosses E b e := by
  rintro ⟨S, A1, A2, R1, R2, B, Q, w, x, y, z, C⟩
  obtain ⟨d1, t1, e1, h1⟩ := head_step C.a1 C.n1
  obtain ⟨d2, t2, e2, h2⟩ := head_step C.a2 C.n2
  have k1 := (h _ _ h1).2
  have k2 := (h _ _ h2).2
  have nd := (List.nodup_cons.mp C.nd).2
  have : ((S ++ A1) ++ [] ++ A2).Nodup := by
    simp only [List.append_nil]
    exact List.Nodup.sublist (by simp only [List.append_assoc]; exact (List.Sublist.refl S).append ((List.Sublist.refl A1).append (List.sublist_append_left A2 _))) nd
  exact nd_two (q := v) this (List.mem_append_right _ (by rw [e1, k1]; simp)) (by rw [e2, k2]; simp)
end L2.HW.G
namespace L2.HW.G
def stp : Int → List Int → List (Int × Int)
  | _, [] => []
  | x, z :: l => (x, z) :: stp z l
def expd (J : Int → Int → List Int) : Int → List Int → List Int
  | _, [] => []
  | x, z :: l => J x z ++ z :: expd J z l
section
variable {J : Int → Int → List Int}
theorem expd_perm : ∀ (l : List Int) (x : Int), (expd J x l).Perm (l ++ (stp x l).flatMap fun s => J s.1 s.2)
  | [], _ => by simp [expd, stp]
  | z :: l, x => by
    have ih := expd_perm l z
    unfold expd stp
    rw [List.flatMap_cons]
    show (J x z ++ z :: expd J z l).Perm (z :: (l ++ (J x z ++ (stp z l).flatMap fun s => J s.1 s.2)))
    refine List.perm_middle.trans (List.Perm.cons z ?_)
    refine (List.Perm.append_left _ ih).trans ?_
    rw [← List.append_assoc, ← List.append_assoc]
    exact List.Perm.append_right _ List.perm_append_comm
theorem expd_pth {E E0 : Int → Int → Prop} (h : ∀ x y, E x y → Pth E0 x (J x y ++ [y]) y) : ∀ {l : List Int} {x y : Int}, Pth E x l y → Pth E0 x (expd J x l) y
  | [], _, _, k => k
  | z :: l, x, y, ⟨k1, k2⟩ => by
    unfold expd
    have := pth_app (h x z k1) (expd_pth h k2)
    simpa using this
theorem expd_ne {l : List Int} {x : Int} (h : l ≠ []) : expd J x l ≠ [] := by
  cases l with
  | nil => exact absurd rfl h
  | cons z l => unfold expd; simp
theorem expd_last {E : Int → Int → Prop} {l : List Int} {x y : Int} (h : Pth E x l y) (n : l ≠ []) : (expd J x l).dropLast.Perm (l.dropLast ++ (stp x l).flatMap fun s => J s.1 s.2) := by
  have h1 := expd_perm (J := J) l x
  obtain ⟨i, rfl⟩ := pth_last h n
  have e : ∃ k, expd J x (i ++ [y]) = k ++ [y] := by
    have : ∀ (i : List Int) (x : Int), ∃ k, expd J x (i ++ [y]) = k ++ [y] := by
      intro i
      induction i with
      | nil => intro x; exact ⟨J x y, by simp [expd]⟩
      | cons z i ih =>
        intro x
        obtain ⟨k, e⟩ := ih z
        exact ⟨J x z ++ z :: k, by simp [expd, e]⟩
    exact this i x
  obtain ⟨k, e⟩ := e
  rw [e] at h1 ⊢
  rw [List.dropLast_concat, List.dropLast_concat]
  have h2 : (y :: k).Perm (y :: (i ++ (stp x (i ++ [y])).flatMap fun s => J s.1 s.2)) := by
    refine List.perm_append_comm.symm.trans (h1.trans ?_)
    have : (i ++ [y] ++ (stp x (i ++ [y])).flatMap fun s => J s.1 s.2) = i ++ y :: ((stp x (i ++ [y])).flatMap fun s => J s.1 s.2) := by simp
    rw [this]
    exact List.perm_middle
  exact List.Perm.cons_inv h2
end
theorem stp_app {E : Int → Int → Prop} : ∀ {l m : List Int} {x y : Int}, Pth E x l y → stp x (l ++ m) = stp x l ++ stp y m
  | [], _, _, _, h => by cases h; rfl
  | z :: l, m, x, y, h => by
    show (x, z) :: stp z (l ++ m) = (x, z) :: (stp z l ++ stp y m)
    rw [stp_app h.2]
theorem stp_edge {E : Int → Int → Prop} : ∀ {l : List Int} {x y : Int}, Pth E x l y → ∀ s ∈ stp x l, E s.1 s.2
  | [], _, _, _, _, hs => nomatch hs
  | z :: l, x, y, h, s, hs => by
    rcases List.mem_cons.mp hs with rfl | hs
    · exact h.1
    · exact stp_edge h.2 s hs
theorem stp_snd : ∀ (l : List Int) (x : Int), (stp x l).map (·.2) = l
  | [], _ => rfl
  | z :: l, x => by show z :: (stp z l).map (·.2) = z :: l; rw [stp_snd l z]
theorem stp_fst : ∀ (l : List Int) (x : Int), (stp x l).map (·.1) = (x :: l).dropLast
  | [], _ => rfl
  | z :: l, x => by
    show x :: (stp z l).map (·.1) = (x :: z :: l).dropLast
    rw [stp_fst l z]; rfl
theorem stp_nodup {l : List Int} {x : Int} (h : l.Nodup) : (stp x l).Nodup := by
  have : ((stp x l).map (·.2)).Nodup := by rw [stp_snd]; exact h
  rw [List.nodup_iff_pairwise_ne] at this ⊢
  rw [List.pairwise_map] at this
  exact this.imp fun h e => h (by rw [e])
theorem stp_to {E : Int → Int → Prop} {ρ : Int → Nat} (hρ : ∀ x y, E x y → ρ x < ρ y) {l : List Int} {x y a : Int} (h : Pth E x l y) (hs : (a, y) ∈ stp x l) : a ∈ x :: l.dropLast := by
  have h1 : a ∈ (stp x l).map (·.1) := List.mem_map.mpr ⟨_, hs, rfl⟩
  rw [stp_fst] at h1
  have h2 : y ∈ (stp x l).map (·.2) := List.mem_map.mpr ⟨_, hs, rfl⟩
  rw [stp_snd] at h2
  cases l with
  | nil => cases h2
  | cons z l => rwa [List.dropLast_cons_of_ne_nil (by simp)] at h1
theorem flat_nodup {J : Int → Int → List Int} {E : Int → Int → Prop} (j2 : ∀ x y, E x y → (J x y).Nodup) (j3 : ∀ x y x' y', E x y → E x' y' → ¬ (x = x' ∧ y = y') → ∀ q ∈ J x y, q ∉ J x' y') : ∀ {st : List (Int × Int)}, (∀ s ∈ st, E s.1 s.2) → st.Nodup → (st.flatMap fun s => J s.1 s.2).Nodup
  | [], _, _ => by simp
  | s :: st, h, n => by
    have n' := List.nodup_cons.mp n
    rw [List.flatMap_cons, List.nodup_append]
    refine ⟨j2 _ _ (h s List.mem_cons_self), flat_nodup j2 j3 (fun t ht => h t (List.mem_cons_of_mem _ ht)) n'.2, fun q hq q' hq' e => ?_⟩
    subst e
    obtain ⟨t, ht, hqt⟩ := List.mem_flatMap.mp hq'
    refine j3 _ _ _ _ (h s List.mem_cons_self) (h t (List.mem_cons_of_mem _ ht)) (fun z => ?_) q hq hqt
    have : s = t := Prod.ext z.1 z.2
    exact n'.1 (this ▸ ht)
theorem cr_expand {E E0 : Int → Int → Prop} {J : Int → Int → List Int} {b e : Int} {ρ : Int → Nat} (hρ : ∀ x y, E x y → ρ x < ρ y) (j1 : ∀ x y, E x y → Pth E0 x (J x y ++ [y]) y)
    (j2 : ∀ x y, E x y → (J x y).Nodup) (j3 : ∀ x y x' y', E x y → E x' y' → ¬ (x = x' ∧ y = y') → ∀ q ∈ J x y, q ∉ J x' y') (j4 : ∀ x y, E x y → ∀ q ∈ J x y, q ≠ b ∧ ∀ x' y', E x' y' → q ≠ x' ∧ q ≠ y')
    {S A1 A2 R1 R2 B Q : List Int} {w x v z : Int} (C : Cr E b e S A1 A2 R1 R2 B Q w x v z) :
    Cr E0 b e (expd J b S) (expd J w A1) (expd J x A2) (expd J v R1) (expd J z R2) (expd J w B) (expd J x Q) w x v z := by
  have r1 := (rk_end hρ C.a1).2 C.n1
  have r2 := (rk_end hρ C.a2).2 C.n2
  have r3 := (rk_end hρ C.r1).2 C.n3
  have nB : B ≠ [] := by rintro rfl; have : w = v := C.pb; subst this; omega
  have nQ : Q ≠ [] := by rintro rfl; have : x = z := C.pq; subst this; omega
  refine ⟨expd_pth j1 C.s, expd_pth j1 C.a1, expd_pth j1 C.a2, expd_pth j1 C.r1, expd_pth j1 C.r2, expd_pth j1 C.pb, expd_pth j1 C.pq, expd_ne C.n1, expd_ne C.n2, expd_ne C.n3, ?_⟩
  -- the whole row
  have hP : Pth E b (S ++ A1 ++ A2 ++ R1 ++ R2) e := pth_app (pth_app (pth_app (pth_app C.s C.a1) C.a2) C.r1) C.r2
  have sP : stp b (S ++ A1 ++ A2 ++ R1 ++ R2) = stp b S ++ stp w A1 ++ stp x A2 ++ stp v R1 ++ stp z R2 := by
    rw [stp_app (pth_app (pth_app (pth_app C.s C.a1) C.a2) C.r1), stp_app (pth_app (pth_app C.s C.a1) C.a2), stp_app (pth_app C.s C.a1), stp_app C.s]
  obtain ⟨P, hPe⟩ : ∃ P, P = S ++ A1 ++ A2 ++ R1 ++ R2 := ⟨_, rfl⟩
  have nd := C.nd
  rw [← hPe] at hP sP nd
  have eT : b :: (P ++ B.dropLast ++ Q.dropLast) = (b :: P) ++ B.dropLast ++ Q.dropLast := by simp
  rw [eT] at nd
  have nd1 := List.nodup_append.mp nd
  have nd2 := List.nodup_append.mp nd1.1
  have ndP := (List.nodup_cons.mp nd2.1).2
  have vA := last_in C.a2 C.n2
  have zR := last_in C.r1 C.n3
  have ndB := pth_nodup hρ C.pb
  have ndQ := pth_nodup hρ C.pq
  -- all steps are unlike
  let st := stp b P ++ stp w B ++ stp x Q
  have stE : ∀ s ∈ st, E s.1 s.2 := fun s hs => by
    rcases List.mem_append.mp hs with hs | hs
    · rcases List.mem_append.mp hs with hs | hs
      · exact stp_edge hP s hs
      · exact stp_edge C.pb s hs
    · exact stp_edge C.pq s hs
  have inP : ∀ s ∈ stp b P, s.1 ∈ b :: P ∧ s.2 ∈ P := fun s hs => by
    have h1 : s.1 ∈ (stp b P).map (·.1) := List.mem_map.mpr ⟨_, hs, rfl⟩
    have h2 : s.2 ∈ (stp b P).map (·.2) := List.mem_map.mpr ⟨_, hs, rfl⟩
    rw [stp_fst] at h1
    rw [stp_snd] at h2
    exact ⟨List.dropLast_subset _ h1, h2⟩
  have snd : ∀ {l : List Int} {x : Int} {s : Int × Int}, s ∈ stp x l → s.2 ∈ l := fun {l x s} hs => by
    have h2 : s.2 ∈ (stp x l).map (·.2) := List.mem_map.mpr ⟨_, hs, rfl⟩
    rwa [stp_snd] at h2
  have inB : ∀ q, q ∈ B → q = v ∨ q ∈ B.dropLast := fun q hq => by
    obtain ⟨i, rfl⟩ := pth_last C.pb nB
    rw [List.dropLast_concat]
    rcases List.mem_append.mp hq with h | h
    · exact .inr h
    · exact .inl (by simpa using h)
  have inQ : ∀ q, q ∈ Q → q = z ∨ q ∈ Q.dropLast := fun q hq => by
    obtain ⟨i, rfl⟩ := pth_last C.pq nQ
    rw [List.dropLast_concat]
    rcases List.mem_append.mp hq with h | h
    · exact .inr h
    · exact .inl (by simpa using h)
  have PB : ∀ q, q ∈ b :: P → q ∈ B.dropLast → False := fun q h1 h2 => nd2.2.2 q h1 q h2 rfl
  have PQ : ∀ q, q ∈ b :: P → q ∈ Q.dropLast → False := fun q h1 h2 => nd1.2.2 q (List.mem_append_left _ h1) q h2 rfl
  have BQ : ∀ q, q ∈ B.dropLast → q ∈ Q.dropLast → False := fun q h1 h2 => nd1.2.2 q (List.mem_append_right _ h1) q h2 rfl
  have stN : st.Nodup := by
    show (stp b P ++ stp w B ++ stp x Q).Nodup
    rw [List.nodup_append, List.nodup_append]
    refine ⟨⟨stp_nodup ndP, stp_nodup (List.nodup_cons.mp ndB).2, fun s hs t ht e => ?_⟩, stp_nodup (List.nodup_cons.mp ndQ).2, fun s hs t ht e => ?_⟩
    · subst e
      obtain ⟨a, c⟩ := s
      obtain ⟨p1, p2⟩ := inP _ hs
      rcases inB c (snd ht) with h | h
      · subst h
        have m1 := stp_to hρ C.pb ht
        -- in P the step to v begins in x, A2
        have : a ∈ x :: A2.dropLast := by
          rw [sP] at hs
          have rk : ∀ {l : List Int} {s0 y : Int}, Pth E s0 l y → (a, c) ∈ stp s0 l → ρ s0 < ρ c ∧ ρ c ≤ ρ y := fun h hs => ⟨rk_mem hρ h c (snd hs), rk_le hρ h c (snd hs)⟩
          simp only [List.mem_append] at hs
          rcases hs with (((hs | hs) | hs) | hs) | hs
          · have := rk C.s hs; omega
          · have := rk C.a1 hs; omega
          · exact stp_to hρ C.a2 hs
          · have := rk C.r1 hs; omega
          · have := rk C.r2 hs; omega
        have ra : ρ x ≤ ρ a := by
          rcases List.mem_cons.mp this with h | h
          · rw [h]; exact Nat.le_refl _
          · exact Nat.le_of_lt (rk_mem hρ C.a2 a (List.dropLast_subset _ h))
        rcases List.mem_cons.mp m1 with h | h
        · rw [h] at ra; omega
        · exact PB a p1 h
      · exact PB c (List.mem_cons_of_mem _ p2) h
    · subst e
      obtain ⟨a, c⟩ := s
      rcases List.mem_append.mp hs with hs | hs
      · obtain ⟨p1, p2⟩ := inP _ hs
        rcases inQ c (snd ht) with h | h
        · subst h
          have m1 := stp_to hρ C.pq ht
          have : a ∈ v :: R1.dropLast := by
            rw [sP] at hs
            have rk : ∀ {l : List Int} {s0 y : Int}, Pth E s0 l y → (a, c) ∈ stp s0 l → ρ s0 < ρ c ∧ ρ c ≤ ρ y := fun h hs => ⟨rk_mem hρ h c (snd hs), rk_le hρ h c (snd hs)⟩
            simp only [List.mem_append] at hs
            rcases hs with (((hs | hs) | hs) | hs) | hs
            · have := rk C.s hs; omega
            · have := rk C.a1 hs; omega
            · have := rk C.a2 hs; omega
            · exact stp_to hρ C.r1 hs
            · have := rk C.r2 hs; omega
          have ra : ρ v ≤ ρ a := by
            rcases List.mem_cons.mp this with h | h
            · rw [h]; exact Nat.le_refl _
            · exact Nat.le_of_lt (rk_mem hρ C.r1 a (List.dropLast_subset _ h))
          rcases List.mem_cons.mp m1 with h | h
          · rw [h] at ra; omega
          · exact PQ a p1 h
        · exact PQ c (List.mem_cons_of_mem _ p2) h
      · rcases inB c (snd hs) with h | h
        · subst h
          rcases inQ c (snd ht) with h2 | h2
          · rw [h2] at r3; omega
          · exact PQ c (List.mem_cons_of_mem _ (by rw [hPe]; simp only [List.mem_append]; exact .inl (.inl (.inr vA)))) h2
        · rcases inQ c (snd ht) with h2 | h2
          · subst h2
            exact PB c (List.mem_cons_of_mem _ (by rw [hPe]; simp only [List.mem_append]; exact .inl (.inr zR))) h
          · exact BQ c h h2
  have flN := flat_nodup j2 j3 stE stN
  -- the places with the inner ones
  have tot : ((b :: P) ++ B.dropLast ++ Q.dropLast ++ st.flatMap fun s => J s.1 s.2).Nodup := by
    rw [List.nodup_append]
    refine ⟨nd, flN, fun q hq q' hq' e => ?_⟩
    subst e
    obtain ⟨s, hs, hqs⟩ := List.mem_flatMap.mp hq'
    obtain ⟨k1, k2⟩ := j4 _ _ (stE s hs) q hqs
    have ends : ∀ {l : List Int} {x0 y0 : Int}, Pth E x0 l y0 → q ∈ l → False := fun {l x0 y0} h hm => by
      obtain ⟨a, l1, e1, h1, _, n1⟩ := pth_at h hm
      obtain ⟨i, ei⟩ := pth_last h1 n1
      rw [ei] at h1
      obtain ⟨d, _, h4⟩ := pth_split h1
      exact (k2 d q h4.1).2 rfl
    rcases List.mem_append.mp hq with hq | hq
    · rcases List.mem_append.mp hq with hq | hq
      · rcases List.mem_cons.mp hq with h | h
        · exact k1 h
        · exact ends hP h
      · exact ends C.pb (List.dropLast_subset _ hq)
    · exact ends C.pq (List.dropLast_subset _ hq)
  refine (List.Perm.nodup_iff ?_).mpr tot
  have pS := expd_perm (J := J) S b
  have pA1 := expd_perm (J := J) A1 w
  have pA2 := expd_perm (J := J) A2 x
  have pR1 := expd_perm (J := J) R1 v
  have pR2 := expd_perm (J := J) R2 z
  have pB := expd_last (J := J) C.pb nB
  have pQ := expd_last (J := J) C.pq nQ
  have all := ((((((pS.append pA1).append pA2).append pR1).append pR2).append pB).append pQ).cons b
  refine all.trans ?_
  show (b :: _).Perm ((b :: P) ++ B.dropLast ++ Q.dropLast ++ (stp b P ++ stp w B ++ stp x Q).flatMap fun s => J s.1 s.2)
  rw [sP, hPe]
  simp only [List.flatMap_append]
  generalize (stp b S).flatMap (fun s => J s.1 s.2) = f1
  generalize (stp w A1).flatMap (fun s => J s.1 s.2) = f2
  generalize (stp x A2).flatMap (fun s => J s.1 s.2) = f3
  generalize (stp v R1).flatMap (fun s => J s.1 s.2) = f4
  generalize (stp z R2).flatMap (fun s => J s.1 s.2) = f5
  generalize (stp w B).flatMap (fun s => J s.1 s.2) = f6
  generalize (stp x Q).flatMap (fun s => J s.1 s.2) = f7
  generalize B.dropLast = Bd
  generalize Q.dropLast = Qd
  rw [List.perm_iff_count]
  intro q
  simp only [List.cons_append, List.count_cons, List.count_append]
  omega
end L2.HW.G
namespace L2.HW
open PySem PySem.Spec PyProof.Rows
structure BF (γ Arc : Type) where
  tl : Arc → Int
  hd : Arc → Int
  ext : γ → Arc → γ
  le : γ → γ → Bool
structure BF.Ok {γ Arc : Type} (B : BF γ Arc) : Prop where
  refl : ∀ x, B.le x x = true
  trans : ∀ {x y z}, B.le x y = true → B.le y z = true → B.le x z = true
  total : ∀ x y, B.le x y = true ∨ B.le y x = true
  mono : ∀ {x y} a, B.le x y = true → B.le (B.ext x a) (B.ext y a) = true
namespace BF
variable {γ Arc : Type} (B : BF γ Arc)
def rel (ks : List (Int × γ)) (a : Arc) : List (Int × γ) := match alook ks (B.tl a) with
  | none => ks
  | some x => match alook ks (B.hd a) with
    | none => aput ks (B.hd a) (B.ext x a)
    | some y => if B.le y (B.ext x a) then ks else aput ks (B.hd a) (B.ext x a)
def round (A : List Arc) (ks : List (Int × γ)) : List (Int × γ) := A.foldl B.rel ks
def run (A : List Arc) : Nat → List (Int × γ) → List (Int × γ)
  | 0, ks => ks
  | n + 1, ks => run A n (B.round A ks)
def Low (ks ks' : List (Int × γ)) : Prop := ∀ k y, alook ks k = some y → ∃ y', alook ks' k = some y' ∧ B.le y' y = true
def pth (A : List Arc) : Int → List Arc → Int → Prop
  | a, [], b => a = b
  | a, c :: p, b => c ∈ A ∧ B.tl c = a ∧ pth A (B.hd c) p b
def ev (z : γ) (p : List Arc) : γ := p.foldl B.ext z
variable {B}
theorem Low.refl (o : B.Ok) (ks : List (Int × γ)) : B.Low ks ks := fun _ y h => ⟨y, h, o.refl y⟩
theorem Low.trans (o : B.Ok) {a b c : List (Int × γ)} (h : B.Low a b) (k : B.Low b c) : B.Low a c := fun j y e => by
  obtain ⟨y1, e1, l1⟩ := h j y e
  obtain ⟨y2, e2, l2⟩ := k j y1 e1
  exact ⟨y2, e2, o.trans l2 l1⟩
theorem pth_app {A : List Arc} {b c : Int} {q : List Arc} : ∀ {p : List Arc} {a : Int}, B.pth A a p b → B.pth A b q c → B.pth A a (p ++ q) c
  | [], _, h, k => by cases h; exact k
  | x :: p, a, ⟨h1, h2, h3⟩, k => ⟨h1, h2, pth_app h3 k⟩
end BF
namespace BF
variable {γ Arc : Type} {B : BF γ Arc}
end BF
end L2.HW
namespace L2.HW
open PySem PySem.Spec PyProof.Rows
@[simp] theorem at_0 {α : Type} (a : α) (l : List α) : atI (a :: l) 0 = some a := by simp [atI, ixN]
@[simp] theorem at_1 {α : Type} (a b : α) (l : List α) : atI (a :: b :: l) 1 = some b := by
  have : (1 : Int) < l.length + 1 + 1 := by omega
  simp [atI, ixN, this]
@[simp] theorem at_2 {α : Type} (a b c : α) (l : List α) : atI (a :: b :: c :: l) 2 = some c := by
  have : (2 : Int) < l.length + 1 + 1 + 1 := by omega
  simp [atI, ixN, this]
@[simp] theorem at_3 {α : Type} (a b c d : α) (l : List α) : atI (a :: b :: c :: d :: l) 3 = some d := by
  have : (3 : Int) < l.length + 1 + 1 + 1 + 1 := by omega
  simp [atI, ixN, this]
structure Rd where
  u : Int
  v : Int
  l : Int
  w : Int
deriving DecidableEq, Repr
def Rd.d (r : Rd) : PyData := .tuple [.int r.u, .int r.v, .int r.l, .int r.w]
structure Wb where
  m : Int
  b : Int
  e : Int
  rs : List Rd
deriving DecidableEq, Repr
def Wb.d (W : Wb) : PyData := .tuple [.int W.m, .int W.b, .int W.e, .tuple (W.rs.map Rd.d)]
structure Rd.Good (m e : Int) (r : Rd) : Prop where
  u0 : 0 ≤ r.u
  u1 : r.u < m
  ue : r.u ≠ e
  v0 : 0 ≤ r.v
  v1 : r.v < m
  uv : r.u ≠ r.v
  l1 : 1 ≤ r.l
  w1 : 1 ≤ r.w
structure Wb.Good (W : Wb) : Prop where
  m2 : 2 ≤ W.m
  mM : W.m ≤ 1000
  b0 : 0 ≤ W.b
  b1 : W.b < W.m
  e0 : 0 ≤ W.e
  e1 : W.e < W.m
  be : W.b ≠ W.e
  rs : ∀ r ∈ W.rs, Rd.Good W.m W.e r
  len : W.rs.length ≤ 10000
theorem keys_aput {γ : Type} (s : List (Int × γ)) (k : Int) (v : γ) : (aput s k v).map (·.1) = insK (s.map (·.1)) k := by
  unfold aput tIx.aput insK
  by_cases h : s.any (fun kv => decide (kv.1 = k)) = true
  · rw [if_pos h, if_pos (by
      obtain ⟨x, hx, hk⟩ := List.any_eq_true.mp h
      exact List.mem_map.mpr ⟨x, hx, of_decide_eq_true hk⟩), List.map_map]
    refine List.map_congr_left fun p _ => ?_
    simp only [Function.comp]
    split <;> rfl
  · rw [if_neg h, if_neg (by
      intro hm
      obtain ⟨x, hx, hk⟩ := List.mem_map.mp hm
      exact h (List.any_eq_true.mpr ⟨x, hx, decide_eq_true hk⟩)), List.map_append]
    rfl
def PlKeys {γ : Type} (m : Int) (s : List (Int × γ)) : Prop := (s.map (·.1)).Nodup ∧ ∀ k ∈ s.map (·.1), 0 ≤ k ∧ k < m
theorem PlKeys.put {γ : Type} {m : Int} {s : List (Int × γ)} (h : PlKeys m s) {k : Int} (h0 : 0 ≤ k) (h1 : k < m) (v : γ) : PlKeys m (aput s k v) := by
  unfold PlKeys
  rw [keys_aput]
  refine ⟨nodup_insK h.1, fun x hx => ?_⟩
  rcases mem_insK.mp hx with hx | rfl
  · exact h.2 x hx
  · exact ⟨h0, h1⟩
end L2.HW
namespace L2.HW
open PySem PySem.Spec PyProof.Rows
end L2.HW
namespace L2.HW
open PySem PySem.Spec PyProof.Rows
abbrev nI (p : List Nat) : List PyData := p.map fun i : Nat => .int (i : Int)
end L2.HW
namespace L2.HW
open PySem PySem.Spec PyProof.Rows
abbrev Hw := Int × Int × List Nat
def Hw.d (h : Hw) : PyData := .tuple [.int h.1, .int h.2.1, .tuple (nI h.2.2)]
end L2.HW
namespace L2.HW
open PySem PySem.Spec PyProof.Rows
end L2.HW
namespace L2.HW
open PySem PySem.Spec PyProof.Rows
abbrev Row := Int × Int
def Row.d (r : Row) : PyData := .tuple [.int r.1, .int r.2]
theorem log_of {x : Int} {k : Nat} (hk : 0 < k) (h : x.natAbs < 2 ^ k) : x.natAbs.log2 < k := by
  by_cases z : x.natAbs = 0
  · rw [z]; exact hk
  · exact (Nat.log2_lt z).mpr h
end L2.HW
namespace L2.HW.G
open PySem
inductive Tr where
  | rd (i : Nat)
  | nd (w : Bool) (ts : List Tr)
mutual
def Tr.d : Tr → PyData
  | .rd i => .int i
  | .nd w ts => .tuple [.str (if w then "behind" else "beside"), .tuple (Tr.ds ts)]
def Tr.ds : List Tr → List PyData
  | [] => []
  | t :: ts => t.d :: Tr.ds ts
end
mutual
/-- the roads of one way through a tree -/
def rin : Tr → List Nat
  | .rd i => [i]
  | .nd w ts => if w then rins ts else rin1 ts
def rins : List Tr → List Nat
  | [] => []
  | t :: ts => rin t ++ rins ts
def rin1 : List Tr → List Nat
  | [] => []
  | t :: _ => rin t
end
structure Ed where
  u : Int
  v : Int
  t : Tr
def Ed.k (d : Ed) : Int × Int := (d.u, d.v)
abbrev Grp := List ((Int × Int) × List Tr)
def addG (g : Grp) (d : Ed) : Grp := if g.any (fun x => decide (x.1 = d.k)) then g.map (fun x => if x.1 = d.k then (x.1, x.2 ++ [d.t]) else x) else g ++ [(d.k, [d.t])]
def besT : List Tr → Tr
  | [t] => t
  | ts => .nd false ts
def mkE (x : (Int × Int) × List Tr) : Ed := ⟨x.1.1, x.1.2, besT x.2⟩
def mergeE (es : List Ed) : List Ed := (es.foldl addG []).map mkE
def inE (es : List Ed) (p : Int) : List Ed := es.filter fun d => decide (d.v = p)
def outE (es : List Ed) (p : Int) : List Ed := es.filter fun d => decide (d.u = p)
def placesE (es : List Ed) (b e : Int) : List Int := sortI (once ((es.filter fun d => decide (d.v ≠ b) && decide (d.v ≠ e)).map (·.v)))
def shortAt (es : List Ed) (p : Int) : Option (List Ed) := match inE es p, outE es p with
  | [x], [y] => some ((es.filter fun d => decide (d.v ≠ p) && decide (d.u ≠ p)) ++ [⟨x.u, y.v, .nd true [x.t, y.t]⟩])
  | _, _ => none
def shortE (es : List Ed) (b e : Int) : Option (List Ed) := (placesE es b e).findSome? (shortAt es)
def redE (b e : Int) : Nat → List Ed → List Ed
  | 0, es => es
  | n + 1, es => match shortE es b e with
    | some es' => redE b e n (mergeE es')
    | none => es
def adj (es : List Ed) (x y : Int) : Prop := ∃ d ∈ es, d.u = x ∧ d.v = y
theorem addG_keys (g : Grp) (d : Ed) : (addG g d).map (·.1) = if d.k ∈ g.map (·.1) then g.map (·.1) else g.map (·.1) ++ [d.k] := by
  unfold addG
  by_cases h : d.k ∈ g.map (·.1)
  · have h' : g.any (fun x => decide (x.1 = d.k)) = true := by
      obtain ⟨x, hx, e⟩ := List.mem_map.mp h
      exact List.any_eq_true.mpr ⟨x, hx, decide_eq_true e⟩
    rw [if_pos h', if_pos h, List.map_map]
    apply List.map_congr_left
    intro x _
    simp only [Function.comp]
    split <;> rfl
  · have h' : ¬ g.any (fun x => decide (x.1 = d.k)) = true := fun z => by
      obtain ⟨x, hx, e⟩ := List.any_eq_true.mp z
      exact h (List.mem_map.mpr ⟨x, hx, of_decide_eq_true e⟩)
    rw [if_neg h', if_neg h]
    simp
structure GG (es : List Ed) (g : Grp) : Prop where
  nd : (g.map (·.1)).Nodup
  all : ∀ k, k ∈ g.map (·.1) ↔ ∃ d ∈ es, d.k = k
  hd : ∀ x ∈ g, ∃ d ∈ es, d.k = x.1 ∧ ∃ ts, x.2 = d.t :: ts
  mem : ∀ x ∈ g, ∀ t ∈ x.2, ∃ d ∈ es, d.k = x.1 ∧ d.t = t
theorem gg_add {es : List Ed} {g : Grp} (h : GG es g) (d : Ed) : GG (es ++ [d]) (addG g d) := by
  refine ⟨?_, fun k => ?_, fun x hx => ?_, fun x hx t ht => ?_⟩
  · rw [addG_keys]
    split
    · exact h.nd
    · rename_i n
      rw [List.nodup_append]
      exact ⟨h.nd, by simp, fun a ha b hb e => n (by have : b = d.k := by simpa using hb
                                                     rw [← this, ← e]; exact ha)⟩
  · rw [addG_keys]
    have := h.all k
    by_cases c : d.k ∈ g.map (·.1)
    · rw [if_pos c, this]
      constructor
      · rintro ⟨x, hx, e⟩; exact ⟨x, List.mem_append_left _ hx, e⟩
      · rintro ⟨x, hx, e⟩
        rcases List.mem_append.mp hx with hx | hx
        · exact ⟨x, hx, e⟩
        · have : x = d := by simpa using hx
          subst this
          rw [← this, ← e]
          exact c
    · rw [if_neg c, List.mem_append, this]
      constructor
      · rintro (⟨x, hx, e⟩ | hx)
        · exact ⟨x, List.mem_append_left _ hx, e⟩
        · have : k = d.k := by simpa using hx
          exact ⟨d, by simp, this.symm⟩
      · rintro ⟨x, hx, e⟩
        rcases List.mem_append.mp hx with hx | hx
        · exact .inl ⟨x, hx, e⟩
        · have : x = d := by simpa using hx
          subst this
          exact .inr (by simp [e])
  · unfold addG at hx
    split at hx
    · obtain ⟨y, hy, e⟩ := List.mem_map.mp hx
      obtain ⟨d0, h1, h2, ts, h3⟩ := h.hd y hy
      split at e
      · subst e; exact ⟨d0, List.mem_append_left _ h1, h2, ts ++ [d.t], by rw [h3]; rfl⟩
      · subst e; exact ⟨d0, List.mem_append_left _ h1, h2, ts, h3⟩
    · rcases List.mem_append.mp hx with hx | hx
      · obtain ⟨d0, h1, h2, ts, h3⟩ := h.hd x hx
        exact ⟨d0, List.mem_append_left _ h1, h2, ts, h3⟩
      · have : x = (d.k, [d.t]) := by simpa using hx
        subst this
        exact ⟨d, by simp, rfl, [], rfl⟩
  · unfold addG at hx
    split at hx
    · obtain ⟨y, hy, e⟩ := List.mem_map.mp hx
      split at e
      · rename_i yk
        subst e
        rcases List.mem_append.mp ht with ht | ht
        · obtain ⟨d0, h1, h2, h3⟩ := h.mem y hy t ht
          exact ⟨d0, List.mem_append_left _ h1, h2, h3⟩
        · have : t = d.t := by simpa using ht
          exact ⟨d, by simp, yk.symm, this.symm⟩
      · subst e
        obtain ⟨d0, h1, h2, h3⟩ := h.mem y hy t ht
        exact ⟨d0, List.mem_append_left _ h1, h2, h3⟩
    · rcases List.mem_append.mp hx with hx | hx
      · obtain ⟨d0, h1, h2, h3⟩ := h.mem x hx t ht
        exact ⟨d0, List.mem_append_left _ h1, h2, h3⟩
      · have : x = (d.k, [d.t]) := by simpa using hx
        subst this
        have : t = d.t := by simpa using ht
        exact ⟨d, by simp, rfl, this.symm⟩
theorem gg_all (es : List Ed) : GG es (es.foldl addG []) := by
  have go : ∀ (es pre : List Ed) (g : Grp), GG pre g → GG (pre ++ es) (es.foldl addG g) := by
    intro es
    induction es with
    | nil => intro pre g h; simpa using h
    | cons d es ih =>
      intro pre g h
      have := ih (pre ++ [d]) (addG g d) (gg_add h d)
      simpa using this
  exact go es [] [] ⟨by simp, by simp, by simp, by simp⟩
theorem besT_rin (t : Tr) (ts : List Tr) : rin (besT (t :: ts)) = rin t := by
  cases ts with
  | nil => rfl
  | cons a ts => simp [besT, rin, rin1]
theorem merge_keys (es : List Ed) : ((mergeE es).map Ed.k).Nodup := by
  have := (gg_all es).nd
  unfold mergeE
  rw [List.map_map]
  exact this
theorem merge_adj (es : List Ed) (x y : Int) : adj (mergeE es) x y ↔ adj es x y := by
  have h := (gg_all es).all (x, y)
  unfold adj mergeE
  constructor
  · rintro ⟨d, hd, rfl, rfl⟩
    obtain ⟨q, hq, rfl⟩ := List.mem_map.mp hd
    obtain ⟨d0, h1, h2⟩ := h.mp (List.mem_map.mpr ⟨q, hq, rfl⟩)
    exact ⟨d0, h1, congrArg Prod.fst h2, congrArg Prod.snd h2⟩
  · rintro ⟨d, hd, rfl, rfl⟩
    obtain ⟨q, hq, e⟩ := List.mem_map.mp (h.mpr ⟨d, hd, rfl⟩)
    exact ⟨mkE q, List.mem_map_of_mem hq, congrArg Prod.fst e, congrArg Prod.snd e⟩
theorem merge_from (es : List Ed) : ∀ d ∈ mergeE es, ∃ d0 ∈ es, d0.u = d.u ∧ d0.v = d.v ∧ rin d0.t = rin d.t := fun d hd => by
  obtain ⟨q, hq, rfl⟩ := List.mem_map.mp hd
  obtain ⟨d0, h1, h2, ts, h3⟩ := (gg_all es).hd q hq
  refine ⟨d0, h1, congrArg Prod.fst h2, congrArg Prod.snd h2, ?_⟩
  show _ = rin (besT q.2)
  rw [h3, besT_rin]
theorem addG_len (g : Grp) (d : Ed) : (addG g d).length ≤ g.length + 1 := by
  unfold addG
  split <;> simp
theorem merge_len (es : List Ed) : (mergeE es).length ≤ es.length := by
  have go : ∀ (es : List Ed) (g : Grp), (es.foldl addG g).length ≤ g.length + es.length := by
    intro es
    induction es with
    | nil => intro g; simp
    | cons d es ih =>
      intro g
      have h1 := ih (addG g d)
      have h2 := addG_len g d
      simp only [List.foldl_cons, List.length_cons]
      omega
  have := go es []
  unfold mergeE
  rw [List.length_map]
  simpa using this
end L2.HW.G
namespace L2.HW.G
open PySem
abbrev Prs := List (Int × Int)
def RP (ps : Prs) : Int → List Nat → Int → Prop
  | x, [], y => x = y
  | x, i :: is, y => ∃ v, ps[i]? = some (x, v) ∧ RP ps v is y
def vsR (ps : Prs) (is : List Nat) : List Int := is.map fun i => ((ps[i]?).map Prod.snd).getD 0
def adjP (ps : Prs) (x y : Int) : Prop := (x, y) ∈ ps
theorem rp_app {ps : Prs} : ∀ {l m : List Nat} {x y z : Int}, RP ps x l y → RP ps y m z → RP ps x (l ++ m) z
  | [], _, _, _, _, h, k => by cases h; exact k
  | _ :: _, _, _, _, _, ⟨v, h1, h2⟩, k => ⟨v, h1, rp_app h2 k⟩
theorem rp_pth {ps : Prs} : ∀ {l : List Nat} {x y : Int}, RP ps x l y → Pth (adjP ps) x (vsR ps l) y
  | [], _, _, h => h
  | i :: is, x, y, ⟨v, h1, h2⟩ => by
    have : vsR ps (i :: is) = v :: vsR ps is := by simp [vsR, h1]
    rw [this]
    exact ⟨List.mem_of_getElem? h1, rp_pth h2⟩
theorem vsR_app (ps : Prs) (l m : List Nat) : vsR ps (l ++ m) = vsR ps l ++ vsR ps m := by simp [vsR]
def inn (ps : Prs) (t : Tr) : List Int := (vsR ps (rin t)).dropLast
structure GI (ps : Prs) (ρ : Int → Nat) (b e : Int) (es : List Ed) : Prop where
  be : b ≠ e
  rk : ∀ x y, (x, y) ∈ ps → ρ x < ρ y
  rp : ∀ d ∈ es, RP ps d.u (rin d.t) d.v ∧ rin d.t ≠ []
  reach : ∀ x y, adj es x y → (∃ l, Pth (adj es) b l x) ∧ ∃ l, Pth (adj es) y l e
  dj : ∀ d ∈ es, ∀ d' ∈ es, d.k ≠ d'.k → ∀ q ∈ inn ps d.t, q ∉ inn ps d'.t
  out : ∀ d ∈ es, ∀ q ∈ inn ps d.t, q ≠ b ∧ q ≠ e ∧ ∀ d' ∈ es, q ≠ d'.u ∧ q ≠ d'.v
section
variable {ps : Prs} {ρ : Int → Nat} {b e : Int} {es : List Ed} (g : GI ps ρ b e es)
include g
theorem gi_rk : ∀ x y, adj es x y → ρ x < ρ y := by
  rintro x y ⟨d, hd, rfl, rfl⟩
  obtain ⟨h, n⟩ := g.rp d hd
  exact (rk_end (fun x y h => g.rk x y h) (rp_pth h)).2 (by
    intro z
    apply n
    have := congrArg List.length z
    simp [vsR] at this
    exact this)
theorem gi_merge : GI ps ρ b e (mergeE es) := by
  have ad : adj (mergeE es) = adj es := by funext x y; exact propext (merge_adj es x y)
  refine ⟨g.be, g.rk, fun d hd => ?_, ?_, fun d hd d' hd' n q hq => ?_, fun d hd q hq => ?_⟩
  · obtain ⟨d0, h1, h2, h3, h4⟩ := merge_from es d hd
    rw [← h2, ← h3, ← h4]
    exact g.rp d0 h1
  · rw [ad]; exact g.reach
  · obtain ⟨d0, h1, h2, h3, h4⟩ := merge_from es d hd
    obtain ⟨d1, k1, k2, k3, k4⟩ := merge_from es d' hd'
    unfold inn at hq ⊢
    rw [← h4] at hq
    rw [← k4]
    exact g.dj d0 h1 d1 k1 (fun z => n (by unfold Ed.k at z ⊢; rw [h2, h3, k2, k3] at z; exact z)) q hq
  · obtain ⟨d0, h1, h2, h3, h4⟩ := merge_from es d hd
    unfold inn at hq
    rw [← h4] at hq
    obtain ⟨a1, a2, a3⟩ := g.out d0 h1 q hq
    refine ⟨a1, a2, fun d' hd' => ?_⟩
    obtain ⟨d1, k1, k2, k3, _⟩ := merge_from es d' hd'
    rw [← k2, ← k3]
    exact a3 d1 k1
theorem short_parts {p : Int} {es' : List Ed} (h : shortAt es p = some es') : ∃ x y, inE es p = [x] ∧ outE es p = [y] ∧ x ∈ es ∧ x.v = p ∧ y ∈ es ∧ y.u = p ∧ es' = (es.filter fun d => decide (d.v ≠ p) && decide (d.u ≠ p)) ++ [⟨x.u, y.v, .nd true [x.t, y.t]⟩] := by
  unfold shortAt at h
  split at h
  · rename_i x y hx hy
    have mx : x ∈ inE es p := by rw [hx]; simp
    have my : y ∈ outE es p := by rw [hy]; simp
    obtain ⟨x1, x2⟩ := List.mem_filter.mp mx
    obtain ⟨y1, y2⟩ := List.mem_filter.mp my
    exact ⟨x, y, hx, hy, x1, of_decide_eq_true x2, y1, of_decide_eq_true y2, (Option.some.inj h).symm⟩
  · cases h
theorem short_rel {p : Int} {es' : List Ed} (h : shortAt es p = some es') : ∃ a c, Short (adj es) (adj es') p a c := by
  obtain ⟨x, y, hx, hy, x1, x2, y1, y2, rfl⟩ := short_parts g h
  refine ⟨x.u, y.v, ?_, ?_, ?_, ?_, ⟨x, x1, rfl, x2⟩, ⟨y, y1, y2, rfl⟩⟩
  · rintro z ⟨d, hd, rfl, e2⟩
    have : d ∈ inE es p := List.mem_filter.mpr ⟨hd, decide_eq_true e2⟩
    rw [hx] at this
    have : d = x := by simpa using this
    rw [this]
  · rintro z ⟨d, hd, e1, rfl⟩
    have : d ∈ outE es p := List.mem_filter.mpr ⟨hd, decide_eq_true e1⟩
    rw [hy] at this
    have : d = y := by simpa using this
    rw [this]
  · rintro z z' ⟨d, hd, rfl, rfl⟩ n1 n2
    exact ⟨d, List.mem_append_left _ (List.mem_filter.mpr ⟨hd, by simp [n1, n2]⟩), rfl, rfl⟩
  · exact ⟨⟨x.u, y.v, .nd true [x.t, y.t]⟩, List.mem_append_right _ (by simp), rfl, rfl⟩
theorem short_adj {p : Int} {es' : List Ed} {a c : Int} (h : shortAt es p = some es') (sh : Short (adj es) (adj es') p a c) : ∀ x y, adj es' x y → (adj es x y ∧ x ≠ p ∧ y ≠ p) ∨ (x = a ∧ y = c) := by
  obtain ⟨x, y, hx, hy, x1, x2, y1, y2, rfl⟩ := short_parts g h
  rintro z z' ⟨d, hd, rfl, rfl⟩
  rcases List.mem_append.mp hd with hd | hd
  · obtain ⟨h1, h2⟩ := List.mem_filter.mp hd
    simp at h2
    exact .inl ⟨⟨d, h1, rfl, rfl⟩, h2.2, h2.1⟩
  · have : d = ⟨x.u, y.v, .nd true [x.t, y.t]⟩ := by simpa using hd
    subst this
    exact .inr ⟨sh.inn _ ⟨x, x1, rfl, x2⟩, sh.out _ ⟨y, y1, y2, rfl⟩⟩
theorem inn_beh (x y : Ed) {p : Int} (hx : RP ps x.u (rin x.t) p) (n : rin x.t ≠ []) (n2 : rin y.t ≠ []) : inn ps (.nd true [x.t, y.t]) = inn ps x.t ++ p :: inn ps y.t := by
  have e : rin (.nd true [x.t, y.t]) = rin x.t ++ rin y.t := by simp [rin, rins]
  unfold inn
  rw [e, vsR_app]
  have nx : vsR ps (rin x.t) ≠ [] := fun z => n (by have := congrArg List.length z; simp [vsR] at this; exact this)
  have ny : vsR ps (rin y.t) ≠ [] := fun z => n2 (by have := congrArg List.length z; simp [vsR] at this; exact this)
  obtain ⟨i, ei⟩ := pth_last (rp_pth hx) nx
  rw [List.dropLast_append_of_ne_nil ny, ei, List.dropLast_concat]
  simp
theorem gi_short {p : Int} {es' : List Ed} (hb : p ≠ b) (he : p ≠ e) (h : shortAt es p = some es') : GI ps ρ b e es' := by
  obtain ⟨a, c, sh⟩ := short_rel g h
  have rk := gi_rk g
  have ad := short_adj g h sh
  obtain ⟨x, y, hx, hy, x1, x2, y1, y2, rfl⟩ := short_parts g h
  obtain ⟨rx, nx⟩ := g.rp x x1
  obtain ⟨ry, ny⟩ := g.rp y y1
  rw [x2] at rx
  rw [y2] at ry
  have ib := inn_beh g x y rx nx ny
  have con := fun {l : List Int} {s t : Int} (k : Pth (adj es) s l t) (hs : s ≠ p) (ht : t ≠ p) => contract rk sh l.length (Nat.le_refl _) k hs ht
  obtain ⟨ap, cp⟩ := sh_ne rk sh
  have kept : ∀ d, d ∈ (es.filter fun d => decide (d.v ≠ p) && decide (d.u ≠ p)) → d ∈ es ∧ d.u ≠ p ∧ d.v ≠ p := fun d hd => by
    obtain ⟨h1, h2⟩ := List.mem_filter.mp hd
    simp at h2
    exact ⟨h1, h2.2, h2.1⟩
  have xa : x.u = a := sh.inn _ ⟨x, x1, rfl, x2⟩
  have yc : y.v = c := sh.out _ ⟨y, y1, y2, rfl⟩
  have kx : ∀ d ∈ es, d.v ≠ p → d.k ≠ x.k := fun d _ n z => n (by have := congrArg Prod.snd z; rw [← x2]; exact this)
  have ky : ∀ d ∈ es, d.u ≠ p → d.k ≠ y.k := fun d _ n z => n (by have := congrArg Prod.fst z; rw [← y2]; exact this)
  have kxy : x.k ≠ y.k := fun z => by
    have := congrArg Prod.fst z
    have h1 : x.u = y.u := this
    rw [xa, y2] at h1
    exact ap h1
  refine ⟨g.be, g.rk, fun d hd => ?_, fun s t hst => ?_, fun d hd d' hd' n q hq => ?_, fun d hd q hq => ?_⟩
  · rcases List.mem_append.mp hd with hd | hd
    · exact g.rp d (kept d hd).1
    · have : d = ⟨x.u, y.v, .nd true [x.t, y.t]⟩ := by simpa using hd
      subst this
      have e : rin (.nd true [x.t, y.t]) = rin x.t ++ rin y.t := by simp [rin, rins]
      show RP ps x.u (rin (.nd true [x.t, y.t])) y.v ∧ rin (.nd true [x.t, y.t]) ≠ []
      rw [e]
      exact ⟨rp_app rx ry, by simp [nx]⟩
  · rcases ad s t hst with ⟨h1, h2, h3⟩ | ⟨rfl, rfl⟩
    · obtain ⟨⟨l, k1⟩, m, k2⟩ := g.reach s t h1
      exact ⟨⟨_, con k1 hb.symm h2⟩, _, con k2 h3 he.symm⟩
    · obtain ⟨⟨l, k1⟩, _⟩ := g.reach _ _ sh.ea
      obtain ⟨_, m, k2⟩ := g.reach _ _ sh.ec
      exact ⟨⟨_, con k1 hb.symm ap⟩, _, con k2 cp he.symm⟩
  · -- apart
    have one : ∀ d, d ∈ (es.filter fun d => decide (d.v ≠ p) && decide (d.u ≠ p)) → ∀ q ∈ inn ps d.t, q ∉ inn ps (.nd true [x.t, y.t]) := fun d hd q hq => by
      obtain ⟨h1, h2, h3⟩ := kept d hd
      rw [ib]
      simp only [List.mem_append, List.mem_cons, not_or]
      refine ⟨g.dj d h1 x x1 (kx d h1 h3) q hq, fun z => ?_, g.dj d h1 y y1 (ky d h1 h2) q hq⟩
      have := ((g.out d h1 q hq).2.2 x x1).2
      rw [x2] at this
      exact this z
    rcases List.mem_append.mp hd with hd | hd
    · rcases List.mem_append.mp hd' with hd' | hd'
      · exact g.dj d (kept d hd).1 d' (kept d' hd').1 n q hq
      · have : d' = ⟨x.u, y.v, .nd true [x.t, y.t]⟩ := by simpa using hd'
        subst this
        exact one d hd q hq
    · have : d = ⟨x.u, y.v, .nd true [x.t, y.t]⟩ := by simpa using hd
      subst this
      rcases List.mem_append.mp hd' with hd' | hd'
      · exact fun z => one d' hd' q z hq
      · have : d' = ⟨x.u, y.v, .nd true [x.t, y.t]⟩ := by simpa using hd'
        subst this
        exact absurd rfl n
  · -- no ends
    have ends : ∀ q, q ≠ b ∧ q ≠ e ∧ (∀ d' ∈ es, q ≠ d'.u ∧ q ≠ d'.v) → q ≠ b ∧ q ≠ e ∧ ∀ d' ∈ (es.filter fun d => decide (d.v ≠ p) && decide (d.u ≠ p)) ++ [⟨x.u, y.v, .nd true [x.t, y.t]⟩], q ≠ d'.u ∧ q ≠ d'.v := fun q ⟨h1, h2, h3⟩ => by
      refine ⟨h1, h2, fun d' hd' => ?_⟩
      rcases List.mem_append.mp hd' with hd' | hd'
      · exact h3 d' (kept d' hd').1
      · have : d' = ⟨x.u, y.v, .nd true [x.t, y.t]⟩ := by simpa using hd'
        subst this
        exact ⟨(h3 x x1).1, (h3 y y1).2⟩
    rcases List.mem_append.mp hd with hd | hd
    · exact ends q (g.out d (kept d hd).1 q hq)
    · have : d = ⟨x.u, y.v, .nd true [x.t, y.t]⟩ := by simpa using hd
      subst this
      have hq : q ∈ inn ps (.nd true [x.t, y.t]) := hq
      rw [ib] at hq
      simp only [List.mem_append, List.mem_cons] at hq
      rcases hq with hq | rfl | hq
      · exact ends q (g.out x x1 q hq)
      · refine ⟨hb, he, fun d' hd' => ?_⟩
        rcases List.mem_append.mp hd' with hd' | hd'
        · obtain ⟨_, h2, h3⟩ := kept d' hd'
          exact ⟨h2.symm, h3.symm⟩
        · have : d' = ⟨x.u, y.v, .nd true [x.t, y.t]⟩ := by simpa using hd'
          subst this
          show q ≠ x.u ∧ q ≠ y.v
          rw [xa, yc]
          exact ⟨ap.symm, cp.symm⟩
      · exact ends q (g.out y y1 q hq)
end
end L2.HW.G
namespace L2.HW.G
open PySem
section
variable {ps : Prs} {ρ : Int → Nat} {b e : Int} {es : List Ed}
theorem mem_places {p : Int} : p ∈ placesE es b e ↔ p ≠ b ∧ p ≠ e ∧ ∃ d ∈ es, d.v = p := by
  unfold placesE
  rw [(sortI_perm _).mem_iff, mem_once]
  simp only [List.mem_map, List.mem_filter, Bool.and_eq_true, decide_eq_true_eq]
  constructor
  · rintro ⟨d, ⟨h1, h2, h3⟩, rfl⟩; exact ⟨h2, h3, d, h1, rfl⟩
  · rintro ⟨h2, h3, d, h1, rfl⟩; exact ⟨d, ⟨h1, h2, h3⟩, rfl⟩
theorem shortE_some {es' : List Ed} (h : shortE es b e = some es') : ∃ p, p ≠ b ∧ p ≠ e ∧ shortAt es p = some es' := by
  obtain ⟨p, hp, k⟩ := List.exists_of_findSome?_eq_some h
  obtain ⟨h1, h2, _⟩ := mem_places.mp hp
  exact ⟨p, h1, h2, k⟩
theorem short_len (g : GI ps ρ b e es) {p : Int} {es' : List Ed} (h : shortAt es p = some es') : es'.length < es.length ∧ es' ≠ [] := by
  obtain ⟨x, y, hx, hy, x1, x2, y1, y2, rfl⟩ := short_parts g h
  have rk := gi_rk g
  have two : (es.filter fun d => decide (d.v ≠ p) && decide (d.u ≠ p)).length + (inE es p).length + (outE es p).length ≤ es.length := by
    have : ∀ l : List Ed, (∀ d ∈ l, d ∈ es) → (l.filter fun d => decide (d.v ≠ p) && decide (d.u ≠ p)).length + (inE l p).length + (outE l p).length ≤ l.length := by
      intro l
      induction l with
      | nil => intro _; simp [inE, outE]
      | cons d l ih =>
        intro hl
        have := ih fun z hz => hl z (List.mem_cons_of_mem _ hz)
        have r := rk d.u d.v ⟨d, hl d List.mem_cons_self, rfl, rfl⟩
        unfold inE outE at *
        simp only [List.filter_cons, List.length_cons]
        by_cases h1 : d.v = p
        · have h2 : d.u ≠ p := fun z => by rw [h1, z] at r; omega
          simp [h1, h2] at this ⊢
          omega
        · by_cases h2 : d.u = p
          · simp [h1, h2] at this ⊢
            omega
          · simp [h1, h2] at this ⊢
            omega
    exact this es fun d hd => hd
  rw [hx, hy] at two
  simp at two ⊢
  omega
theorem red_ok : ∀ (n : Nat) (es : List Ed), es.length ≤ n → GI ps ρ b e es → (es.map Ed.k).Nodup → GI ps ρ b e (redE b e n es) ∧ ((redE b e n es).map Ed.k).Nodup ∧ shortE (redE b e n es) b e = none ∧ (Crosses (adj es) b e → Crosses (adj (redE b e n es)) b e) ∧ (redE b e n es = [] ↔ es = [])
  | 0, es, hn, g, nd => by
    have : es = [] := List.length_eq_zero_iff.mp (by omega)
    subst this
    refine ⟨g, nd, ?_, id, Iff.rfl⟩
    show (placesE [] b e).findSome? _ = none
    have : placesE [] b e = [] := List.eq_nil_iff_forall_not_mem.mpr fun p hp => by
      obtain ⟨_, _, d, hd, _⟩ := mem_places.mp hp
      cases hd
    rw [this]
    rfl
  | n + 1, es, hn, g, nd => by
    unfold redE
    cases h : shortE es b e with
    | none => exact ⟨g, nd, h, id, Iff.rfl⟩
    | some es' =>
      obtain ⟨p, hb, he, hp⟩ := shortE_some h
      have g' := gi_short g hb he hp
      obtain ⟨l1, l2⟩ := short_len g hp
      have ml := merge_len es'
      obtain ⟨a, c, sh⟩ := short_rel g hp
      obtain ⟨r1, r2, r3, r4, r5⟩ := red_ok n (mergeE es') (by omega) (gi_merge g') (merge_keys es')
      refine ⟨r1, r2, r3, fun h => r4 ?_, ?_⟩
      · have ad : adj (mergeE es') = adj es' := by funext x y; exact propext (merge_adj es' x y)
        rw [ad]
        exact cr_contract (gi_rk g) sh hb.symm he.symm h
      · simp only
        rw [r5]
        constructor
        · intro h
          cases es' with
          | nil => exact absurd rfl l2
          | cons d t =>
            have : adj (mergeE (d :: t)) d.u d.v := (merge_adj _ _ _).mpr ⟨d, List.mem_cons_self, rfl, rfl⟩
            rw [h] at this
            obtain ⟨_, h, _⟩ := this
            cases h
        · intro h
          rw [h] at l1
          simp at l1
theorem keys_two {l : List Ed} (nd : (l.map Ed.k).Nodup) {d d' : Ed} (h1 : d ∈ l) (h2 : d' ∈ l) (e : d.k = d'.k) : d = d' := by
  induction l with
  | nil => cases h1
  | cons a l ih =>
    rw [List.map_cons, List.nodup_cons] at nd
    rcases List.mem_cons.mp h1 with rfl | h1
    · rcases List.mem_cons.mp h2 with rfl | h2
      · rfl
      · exact absurd (List.mem_map.mpr ⟨d', h2, e.symm⟩) nd.1
    · rcases List.mem_cons.mp h2 with h2 | h2
      · rw [h2] at e
        exact absurd (List.mem_map.mpr ⟨d, h1, e⟩) nd.1
      · exact ih nd.2 h1 h2
theorem more_than_one {l : List Ed} (nd : (l.map Ed.k).Nodup) {q : Ed → Bool} {d : Ed} (hd : d ∈ l) (hq : q d = true) (h : ∀ x, l.filter q ≠ [x]) : ∃ d' ∈ l, q d' = true ∧ d'.k ≠ d.k := by
  refine Classical.byContradiction fun no => ?_
  have all : ∀ d' ∈ l, q d' = true → d' = d := fun d' h1 h2 => keys_two nd h1 hd (Classical.byContradiction fun z => no ⟨d', h1, h2, z⟩)
  have ndf : (l.filter q).Nodup := by
    have : ((l.filter q).map Ed.k).Nodup := List.Nodup.sublist (List.Sublist.map _ List.filter_sublist) nd
    rw [List.nodup_iff_pairwise_ne] at this ⊢
    rw [List.pairwise_map] at this
    exact this.imp fun h e => h (by rw [e])
  have md : d ∈ l.filter q := List.mem_filter.mpr ⟨hd, hq⟩
  cases hf : l.filter q with
  | nil => rw [hf] at md; cases md
  | cons x t =>
    have hx : x = d := by
      have : x ∈ l.filter q := by rw [hf]; simp
      obtain ⟨h1, h2⟩ := List.mem_filter.mp this
      exact all x h1 h2
    cases t with
    | nil => exact h x hf
    | cons y t =>
      have hy : y = d := by
        have : y ∈ l.filter q := by rw [hf]; simp
        obtain ⟨h1, h2⟩ := List.mem_filter.mp this
        exact all y h1 h2
      rw [hf, hx, hy] at ndf
      simp at ndf
theorem left_cross (g : GI ps ρ b e es) (nd : (es.map Ed.k).Nodup) (hs : shortE es b e = none) (h2 : 2 ≤ es.length) : Crosses (adj es) b e := by
  obtain ⟨d1, d2, t, rfl⟩ : ∃ d1 d2 t, es = d1 :: d2 :: t := by
    match es, h2 with
    | d1 :: d2 :: t, _ => exact ⟨d1, d2, t, rfl⟩
  refine crosses_of (gi_rk g) g.reach (fun x hb he a c ha hc => ?_) (x1 := d1.u) (y1 := d1.v) (x2 := d2.u) (y2 := d2.v) ⟨d1, by simp, rfl, rfl⟩ ⟨d2, by simp, rfl, rfl⟩ (fun z => ?_)
  · obtain ⟨da, h1, rfl, h2⟩ := ha
    obtain ⟨dc, k1, k2, rfl⟩ := hc
    have pl : x ∈ placesE (d1 :: d2 :: t) b e := mem_places.mpr ⟨hb, he, da, h1, h2⟩
    have no := List.findSome?_eq_none_iff.mp hs x pl
    by_cases c1 : ∃ y, inE (d1 :: d2 :: t) x = [y]
    · by_cases c2 : ∃ y, outE (d1 :: d2 :: t) x = [y]
      · obtain ⟨y1, e1⟩ := c1
        obtain ⟨y2, e2⟩ := c2
        unfold shortAt at no
        rw [e1, e2] at no
        cases no
      · obtain ⟨d', m1, m2, m3⟩ := more_than_one nd k1 (q := fun d => decide (d.u = x)) (decide_eq_true k2) (fun y z => c2 ⟨y, z⟩)
        have m2 := of_decide_eq_true m2
        refine .inr ⟨d'.v, fun z => m3 ?_, d', m1, m2, rfl⟩
        unfold Ed.k
        rw [z, m2, k2]
    · obtain ⟨d', m1, m2, m3⟩ := more_than_one nd h1 (q := fun d => decide (d.v = x)) (decide_eq_true h2) (fun y z => c1 ⟨y, z⟩)
      have m2 := of_decide_eq_true m2
      refine .inl ⟨d'.u, fun z => m3 ?_, d', m1, rfl, m2⟩
      unfold Ed.k
      rw [z, m2, h2]
  · rw [List.map_cons, List.nodup_cons] at nd
    exact nd.1 (by rw [List.map_cons]; exact List.mem_cons.mpr (.inl (Prod.ext z.1 z.2)))
def innJ (ps : Prs) (es : List Ed) (x y : Int) : List Int := match es.find? fun d => decide (d.k = (x, y)) with
  | some d => inn ps d.t
  | none => []
theorem innJ_at {x y : Int} (h : adj es x y) : ∃ d ∈ es, d.u = x ∧ d.v = y ∧ innJ ps es x y = inn ps d.t := by
  obtain ⟨d, hd, rfl, rfl⟩ := h
  unfold innJ
  cases hf : es.find? fun d' => decide (d'.k = (d.u, d.v)) with
  | none =>
    have := List.find?_eq_none.mp hf d hd
    exact absurd (decide_eq_true rfl) this
  | some d' =>
    have h0 := List.find?_some hf
    have h1 : d'.k = (d.u, d.v) := by simpa using h0
    exact ⟨d', List.mem_of_find?_eq_some hf, congrArg Prod.fst h1, congrArg Prod.snd h1, rfl⟩
theorem cr_lift (g : GI ps ρ b e es) {S A1 A2 R1 R2 B Q : List Int} {w x v z : Int} (C : Cr (adj es) b e S A1 A2 R1 R2 B Q w x v z) :
    Cr (adjP ps) b e (expd (innJ ps es) b S) (expd (innJ ps es) w A1) (expd (innJ ps es) x A2) (expd (innJ ps es) v R1) (expd (innJ ps es) z R2) (expd (innJ ps es) w B) (expd (innJ ps es) x Q) w x v z := by
  have vs : ∀ d ∈ es, Pth (adjP ps) d.u (inn ps d.t ++ [d.v]) d.v := fun d hd => by
    obtain ⟨h, n⟩ := g.rp d hd
    have p := rp_pth h
    have nn : vsR ps (rin d.t) ≠ [] := fun z => n (by have := congrArg List.length z; simp [vsR] at this; exact this)
    obtain ⟨i, ei⟩ := pth_last p nn
    unfold inn
    rw [ei, List.dropLast_concat]
    rw [ei] at p
    exact p
  refine cr_expand (gi_rk g) (fun x y h => ?_) (fun x y h => ?_) (fun x y x' y' h h' n q hq => ?_) (fun x y h q hq => ?_) C
  · obtain ⟨d, hd, rfl, rfl, e1⟩ := innJ_at (ps := ps) h
    rw [e1]
    exact vs d hd
  · obtain ⟨d, hd, rfl, rfl, e1⟩ := innJ_at (ps := ps) h
    rw [e1]
    have := pth_nodup (fun x y h => g.rk x y h) (vs d hd)
    exact (List.nodup_append.mp (List.nodup_cons.mp this).2).1
  · obtain ⟨d, hd, rfl, rfl, e1⟩ := innJ_at (ps := ps) h
    obtain ⟨d', hd', rfl, rfl, e2⟩ := innJ_at (ps := ps) h'
    rw [e1] at hq
    rw [e2]
    exact g.dj d hd d' hd' (fun z => n ⟨congrArg Prod.fst z, congrArg Prod.snd z⟩) q hq
  · obtain ⟨d, hd, rfl, rfl, e1⟩ := innJ_at (ps := ps) h
    rw [e1] at hq
    obtain ⟨h1, h2, h3⟩ := g.out d hd q hq
    refine ⟨h1, ?_⟩
    rintro x' y' ⟨d', hd', rfl, rfl⟩
    exact h3 d' hd'
theorem left_one (h1 : es.length = 1) : ¬ Crosses (adj es) b e := by
  obtain ⟨d, rfl⟩ := List.length_eq_one_iff.mp h1
  refine single_no (u := d.u) (v := d.v) ?_
  rintro x y ⟨d', h, rfl, rfl⟩
  have : d' = d := by simpa using h
  subst this
  exact ⟨rfl, rfl⟩
end
theorem cr_on {E E' : Int → Int → Prop} {b e : Int} (k : ∀ x y, E x y → (∃ l, Pth E b l x) → (∃ l, Pth E y l e) → E' x y) (h : Crosses E b e) : Crosses E' b e := by
  have on : ∀ {l : List Int} {x y : Int}, (∃ m, Pth E b m x) → (∃ m, Pth E y m e) → Pth E x l y → Pth E' x l y := by
    intro l
    induction l with
    | nil => intro x y _ _ h; exact h
    | cons z l ih =>
      rintro x y ⟨m, hm⟩ ⟨n, hn⟩ ⟨h1, h2⟩
      refine ⟨k x z h1 ⟨m, hm⟩ ⟨l ++ n, pth_app h2 hn⟩, ih ⟨m ++ [z], pth_app hm ⟨h1, rfl⟩⟩ ⟨n, hn⟩ h2⟩
  obtain ⟨S, A1, A2, R1, R2, B, Q, w, x, v, z, C⟩ := h
  have hw : ∃ m, Pth E b m w := ⟨S, C.s⟩
  have hx : ∃ m, Pth E b m x := ⟨_, pth_app C.s C.a1⟩
  have hv : ∃ m, Pth E b m v := ⟨_, pth_app (pth_app C.s C.a1) C.a2⟩
  have hz : ∃ m, Pth E b m z := ⟨_, pth_app (pth_app (pth_app C.s C.a1) C.a2) C.r1⟩
  have ez : ∃ m, Pth E z m e := ⟨_, C.r2⟩
  have ev : ∃ m, Pth E v m e := ⟨_, pth_app C.r1 C.r2⟩
  have ex : ∃ m, Pth E x m e := ⟨_, pth_app C.a2 (pth_app C.r1 C.r2)⟩
  have ew : ∃ m, Pth E w m e := ⟨_, pth_app C.a1 (pth_app C.a2 (pth_app C.r1 C.r2))⟩
  exact ⟨S, A1, A2, R1, R2, B, Q, w, x, v, z, on ⟨[], rfl⟩ ew C.s, on hw ex C.a1, on hx ev C.a2, on hv ez C.r1, on hz ⟨[], rfl⟩ C.r2, on hw ev C.pb, on hx ez C.pq, C.n1, C.n2, C.n3, C.nd⟩
end L2.HW.G
namespace L2.HW
abbrev Pr := Int × Int
inductive Rch (ps : List Pr) : Int → Int → Prop
  | refl (x : Int) : Rch ps x x
  | step {x y z : Int} : Rch ps x y → (y, z) ∈ ps → Rch ps x z
theorem Rch.trans {ps : List Pr} {x y z : Int} (h : Rch ps x y) (k : Rch ps y z) : Rch ps x z := by
  induction k with
  | refl => exact h
  | step _ e ih => exact .step ih e
theorem Rch.one {ps : List Pr} {x y : Int} (h : (x, y) ∈ ps) : Rch ps x y := .step (.refl x) h
theorem Rch.mono {ps qs : List Pr} (hs : ∀ p ∈ ps, p ∈ qs) {x y : Int} (h : Rch ps x y) : Rch qs x y := by
  induction h with
  | refl => exact .refl _
  | step _ e ih => exact .step ih (hs _ e)
def reach1 (ps : List Pr) (ks : List Int) : List Int := ps.foldl (fun ks p => if p.1 ∈ ks then insK ks p.2 else ks) ks
theorem reach1_sub {ps : List Pr} : ∀ {ks : List Int} {x : Int}, x ∈ ks → x ∈ reach1 ps ks := by
  induction ps with
  | nil => intro ks x h; exact h
  | cons p r ih =>
    intro ks x h
    unfold reach1
    rw [List.foldl_cons]
    refine ih ?_
    split
    · exact mem_insK.mpr (.inl h)
    · exact h
theorem reach1_len {ps : List Pr} : ∀ {ks : List Int}, ks.length ≤ (reach1 ps ks).length := by
  induction ps with
  | nil => intro ks; exact Nat.le_refl _
  | cons p r ih =>
    intro ks
    unfold reach1
    rw [List.foldl_cons]
    refine Nat.le_trans ?_ ih
    split
    · unfold insK; split <;> simp
    · exact Nat.le_refl _
theorem reach1_nodup {ps : List Pr} : ∀ {ks : List Int}, ks.Nodup → (reach1 ps ks).Nodup := by
  induction ps with
  | nil => intro ks h; exact h
  | cons p r ih =>
    intro ks h
    unfold reach1
    rw [List.foldl_cons]
    refine ih ?_
    split
    · exact nodup_insK h
    · exact h
theorem reach1_eq {ps : List Pr} : ∀ {ks : List Int}, (reach1 ps ks).length = ks.length → (reach1 ps ks = ks ∧ ∀ p ∈ ps, p.1 ∈ ks → p.2 ∈ ks) := by
  induction ps with
  | nil => intro ks _; exact ⟨rfl, fun _ h => nomatch h⟩
  | cons p r ih =>
    intro ks h
    unfold reach1 at h ⊢
    rw [List.foldl_cons] at h ⊢
    have l1 := reach1_len (ps := r) (ks := if p.1 ∈ ks then insK ks p.2 else ks)
    unfold reach1 at l1
    by_cases h1 : p.1 ∈ ks
    · rw [if_pos h1] at h l1 ⊢
      by_cases h2 : p.2 ∈ ks
      · have e : insK ks p.2 = ks := by unfold insK; rw [if_pos h2]
        rw [e] at h ⊢
        obtain ⟨e1, e2⟩ := ih h
        refine ⟨e1, fun q hq => ?_⟩
        rcases List.mem_cons.mp hq with rfl | hq
        · exact fun _ => h2
        · exact e2 q hq
      · have e : (insK ks p.2).length = ks.length + 1 := by unfold insK; rw [if_neg h2]; simp
        omega
    · rw [if_neg h1] at h ⊢
      obtain ⟨e1, e2⟩ := ih h
      refine ⟨e1, fun q hq => ?_⟩
      rcases List.mem_cons.mp hq with rfl | hq
      · exact fun z => absurd z h1
      · exact e2 q hq
theorem reach1_from {ps qs : List Pr} (hs : ∀ p ∈ ps, p ∈ qs) (S : Int → Prop) (hS : ∀ x y, S x → (x, y) ∈ qs → S y) : ∀ {ks : List Int}, (∀ x ∈ ks, S x) → ∀ x ∈ reach1 ps ks, S x := by
  induction ps with
  | nil => intro ks h; exact h
  | cons p r ih =>
    intro ks h
    unfold reach1
    rw [List.foldl_cons]
    refine ih (fun q hq => hs q (List.mem_cons_of_mem _ hq)) fun x hx => ?_
    split at hx
    · rcases mem_insK.mp hx with hx | rfl
      · exact h x hx
      · exact hS _ _ (h _ (by assumption)) (hs p List.mem_cons_self)
    · exact h x hx
def reachN (ps : List Pr) : Nat → List Int → List Int
  | 0, ks => ks
  | n + 1, ks => if (reach1 ps ks).length = ks.length then ks else reachN ps n (reach1 ps ks)
def room (ps : List Pr) (ks : List Int) : Nat := ((once (ps.map (·.2))).filter fun x => decide (x ∉ ks)).length
theorem filter_len_le {α : Type} {p q : α → Bool} : ∀ {xs : List α}, (∀ x ∈ xs, q x = true → p x = true) → (xs.filter q).length ≤ (xs.filter p).length
  | [], _ => Nat.le_refl _
  | x :: xs, h => by
    have ih := filter_len_le (p := p) (q := q) (xs := xs) fun y hy => h y (List.mem_cons_of_mem _ hy)
    have h0 := h x List.mem_cons_self
    cases hq : q x <;> cases hp : p x <;> simp [hq, hp] <;> first | omega | (rw [hq] at h0; simp [hp] at h0)
theorem filter_len_lt {α : Type} {p q : α → Bool} {a : α} : ∀ {xs : List α}, a ∈ xs → p a = true → q a = false → (∀ x ∈ xs, q x = true → p x = true) → (xs.filter q).length < (xs.filter p).length
  | x :: xs, ha, hp, hq, h => by
    rcases List.mem_cons.mp ha with rfl | ha
    · have := filter_len_le (p := p) (q := q) (xs := xs) fun y hy => h y (List.mem_cons_of_mem _ hy)
      simp [hp, hq]; omega
    · have ih := filter_len_lt ha hp hq fun y hy => h y (List.mem_cons_of_mem _ hy)
      have h0 := h x List.mem_cons_self
      cases hq' : q x <;> cases hp' : p x <;> simp [hq', hp'] <;> first | omega | (rw [hq'] at h0; simp [hp'] at h0)
theorem reach1_new {ps qs : List Pr} (hs : ∀ p ∈ ps, p ∈ qs) : ∀ {ks : List Int}, (reach1 ps ks).length ≠ ks.length → ∃ p ∈ ps, p.2 ∉ ks ∧ p.2 ∈ reach1 ps ks := by
  induction ps with
  | nil => intro ks h; exact absurd rfl h
  | cons p r ih =>
    intro ks h
    unfold reach1 at h ⊢
    rw [List.foldl_cons] at h ⊢
    by_cases h1 : p.1 ∈ ks
    · rw [if_pos h1] at h ⊢
      by_cases h2 : p.2 ∈ ks
      · have e : insK ks p.2 = ks := by unfold insK; rw [if_pos h2]
        rw [e] at h ⊢
        obtain ⟨q, hq, h3, h4⟩ := ih (fun q hq => hs q (List.mem_cons_of_mem _ hq)) h
        exact ⟨q, List.mem_cons_of_mem _ hq, h3, h4⟩
      · exact ⟨p, List.mem_cons_self, h2, reach1_sub (mem_insK.mpr (.inr rfl))⟩
    · rw [if_neg h1] at h ⊢
      obtain ⟨q, hq, h3, h4⟩ := ih (fun q hq => hs q (List.mem_cons_of_mem _ hq)) h
      exact ⟨q, List.mem_cons_of_mem _ hq, h3, h4⟩
theorem room_lt {ps : List Pr} {ks : List Int} (h : (reach1 ps ks).length ≠ ks.length) : room ps (reach1 ps ks) < room ps ks := by
  obtain ⟨p, hp, h1, h2⟩ := reach1_new (fun _ h => h) h
  refine filter_len_lt (a := p.2) (mem_once.mpr (List.mem_map_of_mem hp)) (decide_eq_true h1) (by simpa using h2) fun x _ hx => ?_
  simp only [decide_eq_true_eq] at hx ⊢
  exact fun z => hx (reach1_sub z)
theorem room_le (ps : List Pr) (ks : List Int) : room ps ks ≤ ps.length := by
  have h1 := List.length_filter_le (fun x => decide (x ∉ ks)) (once (ps.map (·.2)))
  have h2 := len_once (ps.map (·.2))
  simp only [List.length_map] at h2
  unfold room
  omega
def reach (ps : List Pr) (ks : List Int) : List Int := reachN ps ps.length ks
theorem reachN_closed {ps : List Pr} : ∀ {n : Nat} {ks : List Int}, room ps ks ≤ n → (∀ x ∈ ks, x ∈ reachN ps n ks) ∧ (∀ p ∈ ps, p.1 ∈ reachN ps n ks → p.2 ∈ reachN ps n ks) ∧ (ks.Nodup → (reachN ps n ks).Nodup) ∧ (reach1 ps (reachN ps n ks)).length = (reachN ps n ks).length
  | 0, ks, h => by
    have e : (reach1 ps ks).length = ks.length := by
      by_cases z : (reach1 ps ks).length = ks.length
      · exact z
      · have := room_lt z; omega
    exact ⟨fun x h => h, (reach1_eq e).2, fun h => h, e⟩
  | n + 1, ks, h => by
    unfold reachN
    by_cases z : (reach1 ps ks).length = ks.length
    · rw [if_pos z]
      exact ⟨fun x h => h, (reach1_eq z).2, fun h => h, z⟩
    · rw [if_neg z]
      have hz := room_lt z
      obtain ⟨h1, h2, h3, h4⟩ := reachN_closed (ps := ps) (n := n) (ks := reach1 ps ks) (by omega)
      exact ⟨fun x hx => h1 x (reach1_sub hx), h2, fun hn => h3 (reach1_nodup hn), h4⟩
theorem reachN_from {ps : List Pr} (S : Int → Prop) (hS : ∀ x y, S x → (x, y) ∈ ps → S y) : ∀ {n : Nat} {ks : List Int}, (∀ x ∈ ks, S x) → ∀ x ∈ reachN ps n ks, S x
  | 0, ks, h => h
  | n + 1, ks, h => by
    unfold reachN
    split
    · exact h
    · exact reachN_from S hS (reach1_from (fun _ h => h) S hS h)
theorem mem_reach {ps : List Pr} {ks : List Int} {y : Int} : y ∈ reach ps ks ↔ ∃ x ∈ ks, Rch ps x y := by
  obtain ⟨h1, h2, _⟩ := reachN_closed (ps := ps) (n := ps.length) (ks := ks) (room_le ps ks)
  constructor
  · exact reachN_from (fun y => ∃ x ∈ ks, Rch ps x y) (fun x y ⟨a, ha, r⟩ e => ⟨a, ha, .step r e⟩) (fun x hx => ⟨x, hx, .refl x⟩) y
  · rintro ⟨x, hx, r⟩
    induction r with
    | refl => exact h1 x hx
    | step _ e ih => exact h2 _ e ih
def Rnd (ps : List Pr) : Prop := ∃ p ∈ ps, Rch ps p.2 p.1
def roundB (ps : List Pr) : Bool := ps.any fun p => decide (p.1 ∈ reach ps [p.2])
theorem roundB_iff {ps : List Pr} : roundB ps = true ↔ Rnd ps := by
  unfold roundB Rnd
  simp [List.any_eq_true, mem_reach]
def Acy (ps : List Pr) : Prop := ∃ r : Int → Int, ∀ p ∈ ps, r p.1 < r p.2
theorem Acy.noRnd {ps : List Pr} (h : Acy ps) : ¬ Rnd ps := by
  obtain ⟨r, hr⟩ := h
  have le : ∀ x y, Rch ps x y → r x ≤ r y := fun x y h => by
    induction h with
    | refl => exact Int.le_refl _
    | step _ e ih => have := hr _ e; exact Int.le_trans ih (Int.le_of_lt this)
  rintro ⟨p, hp, k⟩
  have h1 := le _ _ k
  have h2 := hr p hp
  omega
def ends (ps : List Pr) : List Int := once (ps.map (·.1) ++ ps.map (·.2))
theorem mem_ends {ps : List Pr} {p : Pr} (h : p ∈ ps) : p.1 ∈ ends ps ∧ p.2 ∈ ends ps := by
  unfold ends
  rw [mem_once, mem_once]
  exact ⟨List.mem_append_left _ (List.mem_map_of_mem (f := (·.1)) h), List.mem_append_right _ (List.mem_map_of_mem (f := (·.2)) h)⟩
def later (ps : List Pr) (x : Int) : Nat := ((ends ps).filter fun z => decide (z ∈ reach ps [x])).length
theorem later_lt {ps : List Pr} (h : ¬ Rnd ps) {x y : Int} (e : (x, y) ∈ ps) : later ps y < later ps x := by
  refine filter_len_lt (xs := ends ps) (a := x) (p := fun z => decide (z ∈ reach ps [x])) (q := fun z => decide (z ∈ reach ps [y])) (mem_ends e).1 (decide_eq_true (mem_reach.mpr ⟨x, by simp, .refl x⟩)) (decide_eq_false fun z => ?_) fun z _ hz => ?_
  · obtain ⟨a, ha, r⟩ := mem_reach.mp z
    have : a = y := by simpa using ha
    subst this
    exact h ⟨_, e, r⟩
  · obtain ⟨a, ha, r⟩ := mem_reach.mp (of_decide_eq_true hz)
    have : a = y := by simpa using ha
    subst this
    exact decide_eq_true (mem_reach.mpr ⟨x, by simp, (Rch.one e).trans r⟩)
theorem acy_iff {ps : List Pr} : Acy ps ↔ ¬ Rnd ps :=
  ⟨Acy.noRnd, fun h => ⟨fun x => - (later ps x : Int), fun p hp => by have := later_lt h (show (p.1, p.2) ∈ ps from hp); show - (later ps p.1 : Int) < - (later ps p.2 : Int); omega⟩⟩
theorem roundB_acy {ps : List Pr} : roundB ps = false ↔ Acy ps := by
  rw [acy_iff, ← roundB_iff, Bool.not_eq_true]
end L2.HW
namespace L2.HW
open PySem PySem.Spec PyProof.Rows
def wholeB : PyData → Bool
  | .int i => decide (0 ≤ i)
  | _ => false
def fromB (l : Int) : PyData → Bool
  | .int i => decide (l ≤ i)
  | _ => false
def placeB (m : Int) : PyData → Bool
  | .int i => decide (0 ≤ i) && decide (i < m)
  | _ => false
@[simp] theorem F_is_whole_eq (x : PyData) (L : LH) : F_is_whole [.d x] L = .ok (.d (.bool (wholeB x))) L := by
  cases x <;> simp [F_is_whole, b_is_whole, mkFn, Va.kind, isKind, opGe, wholeB]
@[simp] theorem F_l_whole_eq (x : PyData) (L : LH) : F_l_whole [.d x] L = .ok (.d (.bool (match x with | .int _ => true | _ => false))) L := by
  cases x <;> simp [F_l_whole, b_l_whole, mkFn, Va.kind, isKind]
@[simp] theorem F_is_more_eq (x : PyData) (L : LH) : F_is_more [.d x] L = .ok (.d (.bool (fromB 1 x))) L := by
  cases x with
  | int i =>
    simp [F_is_more, b_is_more, mkFn, wholeB, opGt, fromB]
    by_cases h : 0 ≤ i
    · simp [h]; omega
    · simp [h]; omega
  | _ => simp [F_is_more, b_is_more, mkFn, wholeB, fromB]
@[simp] theorem F_is_place_eq (m : Int) (x : PyData) (L : LH) : F_is_place [.d (.int m), .d x] L = .ok (.d (.bool (placeB m x))) L := by
  cases x with
  | int i =>
    simp [F_is_place, b_is_place, mkFn, wholeB, placeB]
    by_cases h : 0 ≤ i <;> simp [h]
  | _ => simp [F_is_place, b_is_place, mkFn, wholeB, placeB]
@[simp] theorem F_l_is_from_eq (l : Int) (x : PyData) (L : LH) : F_l_is_from [.d x, .d (.int l)] L = .ok (.d (.bool (fromB l x))) L := by
  cases x <;> simp [F_l_is_from, b_l_is_from, mkFn, fromB, opGe]
@[simp] theorem F_l_is_place_eq (m : Int) (x : PyData) (L : LH) : F_l_is_place [.d (.int m), .d x] L = .ok (.d (.bool (placeB m x))) L := by
  cases x with
  | int i =>
    simp [F_l_is_place, b_l_is_place, mkFn, fromB, placeB]
    by_cases h : 0 ≤ i <;> simp [h]
  | _ => simp [F_l_is_place, b_l_is_place, mkFn, fromB, placeB]
def roadB (m e : Int) : PyData → Bool
  | .tuple [.int u, .int v, .int l, .int w] => decide (0 ≤ u) && decide (u < m) && (decide (0 ≤ v) && decide (v < m)) && !decide (u = v) && !decide (u = e) && decide (1 ≤ l) && decide (1 ≤ w)
  | _ => false
theorem placeB_int {m : Int} {x : PyData} (h : placeB m x = true) : ∃ i, x = .int i := by
  cases x <;> simp [placeB] at h ⊢
theorem shaped_int (i : Int) : SeqAt.shaped (.int i) = true := by simp [SeqAt.shaped, PyData.canLay0, PyData.depth]
theorem four_some {xs : List PyData} (h : xs.length = 4) : ∃ a b c d, xs = [a, b, c, d] := by
  match xs, h with
  | [a, b, c, d], _ => exact ⟨a, b, c, d, rfl⟩
theorem roadB_tup {m e : Int} {xs : List PyData} (h : xs.length ≠ 4) : roadB m e (.tuple xs) = false := by
  unfold roadB
  split
  · rename_i h2; cases h2; simp at h
  · rfl
theorem roadB_4 {m e : Int} (u v l w : PyData) : roadB m e (.tuple [u, v, l, w]) = (placeB m u && placeB m v && !PyData.eqv u v && !PyData.eqv u (.int e) && fromB 1 l && fromB 1 w) := by
  cases u <;> first | rfl | skip
  cases v <;> first | simp [roadB, placeB]
  cases l <;> first | simp [roadB, fromB]
  cases w <;> first | simp [roadB, fromB]
  rename_i u v l w
  simp [roadB, placeB, fromB, eqv_int]
@[simp] theorem F_is_road_eq (m e : Int) (x : PyData) (L : LH) : F_is_road [.d (.int m), .d (.int e), .d x] L = .ok (.d (.bool (roadB m e x))) L := by
  cases x with
  | tuple xs =>
    by_cases h : xs.length = 4
    · obtain ⟨u, v, l, w, rfl⟩ := four_some h
      rw [roadB_4]
      simp [F_is_road, b_is_road, mkFn, Va.kind, isKind, shaped_int, eqv_int]
      by_cases h1 : placeB m u
      · obtain ⟨u, rfl⟩ := placeB_int h1
        by_cases h2 : placeB m v
        · obtain ⟨v, rfl⟩ := placeB_int h2
          by_cases h3 : u = v <;> by_cases h4 : u = e <;> by_cases h5 : fromB 1 l <;> simp [h1, h2, shaped_int, eqv_int, h3, h4, h5]
          all_goals (try subst h3) <;> simp_all
        · simp [h1, h2]
      · simp [h1]
    · rw [roadB_tup h]
      have h' : ¬ ((xs.length : Int) = 4) := by omega
      simp [F_is_road, b_is_road, mkFn, Va.kind, isKind, shaped_int, eqv_int, h, h']
  | _ => simp [F_is_road, b_is_road, mkFn, Va.kind, isKind, roadB]
@[simp] theorem F_l_is_road_eq (m e : Int) (x : PyData) (L : LH) : F_l_is_road [.d (.int m), .d (.int e), .d x] L = .ok (.d (.bool (roadB m e x))) L := by
  cases x with
  | tuple xs =>
    by_cases h : xs.length = 4
    · obtain ⟨u, v, l, w, rfl⟩ := four_some h
      rw [roadB_4]
      simp [F_l_is_road, b_l_is_road, mkFn, Va.kind, isKind, shaped_int, eqv_int]
      by_cases h1 : placeB m u
      · obtain ⟨u, rfl⟩ := placeB_int h1
        by_cases h2 : placeB m v
        · obtain ⟨v, rfl⟩ := placeB_int h2
          by_cases h3 : u = v <;> by_cases h4 : u = e <;> by_cases h5 : fromB 1 l <;> simp [h1, h2, shaped_int, eqv_int, h3, h4, h5]
          all_goals (try subst h3) <;> simp_all
        · simp [h1, h2]
      · simp [h1]
    · rw [roadB_tup h]
      have h' : ¬ ((xs.length : Int) = 4) := by omega
      simp [F_l_is_road, b_l_is_road, mkFn, Va.kind, isKind, shaped_int, eqv_int, h, h']
  | _ => simp [F_l_is_road, b_l_is_road, mkFn, Va.kind, isKind, roadB]
def webB : PyData → Bool
  | .tuple [.int m, b, e, .tuple rs] => decide (2 ≤ m) && placeB m b && placeB m e && !PyData.eqv b e && match e with
    | .int e => rs.all (roadB m e)
    | _ => false
  | _ => false
theorem webB_tup {xs : List PyData} (h : xs.length ≠ 4) : webB (.tuple xs) = false := by
  unfold webB
  split
  · rename_i h2; cases h2; simp at h
  · rfl
def fewB : PyData → Prop
  | .tuple [_, _, _, .tuple rs] => rs.length ≤ sizeLine
  | _ => True
theorem cAll_map (rs : List PyData) (p : PyData → Bool) (L : LH) : cAll [.d (.list (rs.map fun x => .bool (p x)))] L = .ok (.d (.bool (rs.all p))) L := by
  have e : boolsOf ((rs.map fun x => PyData.bool (p x)).map Va.d) = some (rs.map p) := by
    induction rs with
    | nil => rfl
    | cons a r ih => simp only [List.map_cons, boolsOf, ih]; rfl
  have e2 : Va.items L (.d (.list (rs.map fun x => .bool (p x)))) = some ((rs.map fun x => PyData.bool (p x)).map Va.d) := rfl
  simp only [cAll, one, e2, e]
  congr 3
  rw [List.all_map]
  rfl
theorem webB_4 {m b e r : PyData} : webB (.tuple [m, b, e, r]) = (match m, e, r with | .int m, .int e, .tuple rs => decide (2 ≤ m) && placeB m b && placeB m (.int e) && !PyData.eqv b (.int e) && rs.all (roadB m e) | _, _, _ => false) := by
  cases m <;> try rfl
  cases r <;> try (cases e <;> rfl)
  cases e <;> simp [webB]
theorem F_is_right_web_eq (x : PyData) (hx : fewB x) (L : LH) : F_is_right_web [.d x] L = .ok (.d (.bool (webB x))) L := by
  cases x with
  | tuple xs =>
    by_cases h : xs.length = 4
    · obtain ⟨m, b, e, r, rfl⟩ := four_some h
      rw [webB_4]
      by_cases h0 : wholeB m
      · obtain ⟨m, rfl⟩ : ∃ i, m = .int i := by cases m <;> simp [wholeB] at h0 ⊢
        by_cases h1 : m < 2
        · have : ¬ 2 ≤ m := by omega
          simp [F_is_right_web, b_is_right_web, mkFn, Va.kind, isKind, shaped_int, eqv_int, h0, h1, atI, ixN]
          cases e <;> cases r <;> simp [this]
        · have h1' : 2 ≤ m := by omega
          simp [F_is_right_web, b_is_right_web, mkFn, Va.kind, isKind, shaped_int, eqv_int, h0, h1, atI, ixN]
          by_cases h2 : placeB m b
          · obtain ⟨b, rfl⟩ := placeB_int h2
            by_cases h3 : placeB m e
            · obtain ⟨e, rfl⟩ := placeB_int h3
              by_cases h4 : b = e
              · subst h4
                simp [h2, h3, shaped_int, eqv_int]
                cases r <;> simp
              · simp [h2, h3, h4, shaped_int, eqv_int, h1']
                cases r with
                | tuple rs =>
                  have hz : rs.length ≤ sizeLine := hx
                  simp [Va.kind, isKind]
                  rw [fComp_map (xs := rs) (h := fun x => .bool (roadB m e x)) (by simp [srcOf]) hz (fun x _ => ⟨_, rfl, by simp [wipeE]⟩)]
                  have h2' : 0 ≤ b ∧ b < m := by simpa [placeB] using h2
                  simp [cAll_map, h2, h3, h4, h1']
                | _ => simp [Va.kind, isKind]
            · simp [h2, h3]
              cases e <;> cases r <;> simp_all
          · simp [h2]
            cases e <;> cases r <;> simp_all
      · simp [F_is_right_web, b_is_right_web, mkFn, Va.kind, isKind, shaped_int, eqv_int, h0, atI, ixN]
        cases m <;> cases e <;> cases r <;> simp [wholeB] at h0 ⊢
        all_goals omega
    · rw [webB_tup h]
      have h' : ¬ ((xs.length : Int) = 4) := by omega
      simp [F_is_right_web, b_is_right_web, mkFn, Va.kind, isKind, shaped_int, eqv_int, h, h']
  | _ => simp [F_is_right_web, b_is_right_web, mkFn, Va.kind, isKind, webB]
end L2.HW
namespace L2.HW
open PySem PySem.Spec PyProof.Rows
abbrev dP (p : Pr) : PyData := .tuple [.int p.1, .int p.2]
abbrev vP (p : Pr) : Va := .d (dP p)
abbrev tt : Va := .d (.bool true)
end L2.HW
namespace L2.HW
open PySem PySem.Spec PyProof.Rows
def pairB (m e : Int) : PyData → Bool
  | .tuple [.int u, .int v] => decide (0 ≤ u) && decide (u < m) && (decide (0 ≤ v) && decide (v < m)) && !decide (u = v) && !decide (u = e)
  | _ => false
def prOf : PyData → Pr
  | .tuple [.int u, .int v] => (u, v)
  | _ => (0, 0)
theorem pairB_tup {m e : Int} {xs : List PyData} (h : xs.length ≠ 2) : pairB m e (.tuple xs) = false := by
  unfold pairB
  split
  · rename_i h2; cases h2; simp at h
  · rfl
theorem two_some {xs : List PyData} (h : xs.length = 2) : ∃ a b, xs = [a, b] := by
  match xs, h with
  | [a, b], _ => exact ⟨a, b, rfl⟩
theorem pairB_2 {m e : Int} (u v : PyData) : pairB m e (.tuple [u, v]) = (placeB m u && placeB m v && !PyData.eqv u v && !PyData.eqv u (.int e)) := by
  cases u <;> first | rfl | skip
  cases v <;> first | simp [pairB, placeB]
  rename_i u v
  simp [pairB, placeB, eqv_int]
@[simp] theorem F_is_pair_eq (m e : Int) (x : PyData) (L : LH) : F_is_pair [.d (.int m), .d (.int e), .d x] L = .ok (.d (.bool (pairB m e x))) L := by
  cases x with
  | tuple xs =>
    by_cases h : xs.length = 2
    · obtain ⟨u, v, rfl⟩ := two_some h
      rw [pairB_2]
      have hc : fComp (srcV (eVar 2)) (tN 3) tTrue (eCall F_is_place (aCons (eVar 0) (aCons (eVar 3) aNil))) [3] [some (.d (.int m)), some (.d (.int e)), some (.d (.tuple [u, v])), none] L = .ok (.lst [.d (.bool (placeB m u)), .d (.bool (placeB m v))]) L := by
        rw [fComp_map (xs := [u, v]) (h := fun x => .bool (placeB m x)) (by simp [srcOf]) (by simp [sizeLine_eq]) (fun x _ => ⟨_, rfl, by simp [wipeE]⟩)]
        rfl
      have ha := cAll_map [u, v] (placeB m) L
      simp only [List.map_cons, List.map_nil] at ha
      simp [F_is_pair, b_is_pair, mkFn, Va.kind, isKind, shaped_int, eqv_int, hc, ha]
      by_cases h1 : placeB m u
      · obtain ⟨u, rfl⟩ := placeB_int h1
        by_cases h2 : placeB m v
        · obtain ⟨v, rfl⟩ := placeB_int h2
          simp [h1, h2, shaped_int, eqv_int, Va.seq, atI, ixN]
          by_cases h3 : u = v <;> simp [h3]
        · simp [h1, h2]
      · simp [h1]
    · rw [pairB_tup h]
      have h' : ¬ ((xs.length : Int) = 2) := by omega
      simp [F_is_pair, b_is_pair, mkFn, Va.kind, isKind, shaped_int, eqv_int, h, h']
  | _ => simp [F_is_pair, b_is_pair, mkFn, Va.kind, isKind, pairB]
def shapeB : PyData → Bool
  | .tuple [.int m, b, e, .tuple rs] => decide (2 ≤ m) && placeB m b && placeB m e && !PyData.eqv b e && match e with
    | .int e => rs.all (pairB m e) && !roundB (rs.map prOf)
    | _ => false
  | _ => false
theorem shapeB_4 {m b e r : PyData} : shapeB (.tuple [m, b, e, r]) = (match m, e, r with | .int m, .int e, .tuple rs => decide (2 ≤ m) && placeB m b && placeB m (.int e) && !PyData.eqv b (.int e) && (rs.all (pairB m e) && !roundB (rs.map prOf)) | _, _, _ => false) := by
  cases m <;> try rfl
  cases r <;> try (cases e <;> rfl)
  cases e <;> simp [shapeB]
end L2.HW
namespace L2.HW
open PySem PySem.Spec PyProof.Rows
structure GoodS (top cnt : Int) (m b e : Int) (ps : List Pr) : Prop where
  m2 : 2 ≤ m
  mt : m ≤ top
  b0 : 0 ≤ b
  b1 : b < m
  e0 : 0 ≤ e
  e1 : e < m
  be : b ≠ e
  rd : ∀ p ∈ ps, 0 ≤ p.1 ∧ p.1 < m ∧ 0 ≤ p.2 ∧ p.2 < m ∧ p.1 ≠ e
  len : (ps.length : Int) ≤ cnt
  acy : Acy ps
theorem Acy.ne {ps : List Pr} (h : Acy ps) : ∀ p ∈ ps, p.1 ≠ p.2 := fun p hp e => by
  obtain ⟨r, hr⟩ := h
  have := hr p hp
  rw [e] at this
  exact Int.lt_irrefl _ this
abbrev encS (m b e : Int) (ps : List Pr) : PyData := .tuple [.int m, .int b, .int e, .tuple (ps.map dP)]
theorem GoodS.shapeB {top cnt m b e : Int} {ps : List Pr} (h : GoodS top cnt m b e ps) : shapeB (encS m b e ps) = true := by
  rw [encS, shapeB_4]
  have hp : (ps.map dP).all (pairB m e) = true := by
    rw [List.all_eq_true]
    intro x hx
    obtain ⟨p, hp, rfl⟩ := List.mem_map.mp hx
    have := h.rd p hp
    have hn := h.acy.ne p hp
    simp [pairB, this, hn]
  have hr : (ps.map dP).map prOf = ps := by
    rw [List.map_map]
    exact List.map_id' ps
  simp only [hp, hr, roundB_acy.mpr h.acy]
  simp [placeB, eqv_int, h.m2, h.b0, h.b1, h.e0, h.e1, h.be]
end L2.HW
namespace L2.HW
open PySem PySem.Spec PyProof.Rows
end L2.HW
namespace L2.HW
open PySem PySem.Spec PyProof.Rows
end L2.HW
namespace L2.HW
open PySem PySem.Spec PyProof.Rows
def GoodRoad (m e : Int) (r : PyData) : Prop := ∃ u v l w : Int, r = .tuple [.int u, .int v, .int l, .int w] ∧ 0 ≤ u ∧ u < m ∧ u ≠ e ∧ 0 ≤ v ∧ v < m ∧ v ≠ u ∧ 1 ≤ l ∧ l ≤ 5 ∧ 1 ≤ w ∧ w ≤ 3
theorem roads_ex {L : LH} {n : Nat} {p m e c : Int} (hn : n < L.length) (hm : 2 ≤ m) (hm2 : m ≤ 1000) (he : 0 ≤ e) (he2 : e < m) (hc : 0 ≤ c) (hc2 : c ≤ 10000) :
    ∃ rs p', F_l_roads [.loc n, .d (.int m), .d (.int e), .d (.int c)] (L.set n (P1 p)) = .ok (.d (.tuple rs)) (L.set n (P1 p')) ∧ rs.length = c.toNat ∧ ∀ r ∈ rs, GoodRoad m e r := by
  have hz : c.toNat ≤ sizeLine := by rw [sizeLine_eq]; omega
  have loop := forL_inv (g := tN 5) (body := b_l_roads_1)
    (I := fun ws env M => ∃ (rs : List PyData) (q : Int) (a b d : Option Va), env = [some (.loc n), some (.d (.int m)), some (.d (.int e)), some (.d (.int c)), some (.loc L.length), a, b, d] ∧ M = (L ++ [some (Ob.lst (rs.map Va.d))]).set n (P1 q) ∧ rs.length + ws.length = c.toNat ∧ ∀ r ∈ rs, GoodRoad m e r)
    (rngV 0 c.toNat) [some (.loc n), some (.d (.int m)), some (.d (.int e)), some (.d (.int c)), some (.loc L.length), none, none, none] (L.set n (P1 p) ++ [some (Ob.lst [])]) ⟨[], p, none, none, none, rfl, set_app hn, by simp [rngV], by simp⟩ ?_
  · obtain ⟨env', L', e1, rs, q, a, b, d, rfl, rfl, h1, h2⟩ := loop
    refine ⟨rs, q, ?_, by simpa using h1, h2⟩
    have hb := rng_ok hc (show c ≤ 1000000 by omega)
    simp [F_l_roads, b_l_roads, mkFn, sFor, hb, e1, Va.items, get_top hn, get_top' hn, outV_set', hn, sizeLine_eq]
  · rintro w r env M ⟨rs, q, a, b, d, rfl, rfl, h1, h2⟩
    have hz2 : rs.length < 16777216 := by simp at h1; omega
    obtain ⟨u, p1, u0, u1, eu⟩ := take_cell (p := q) (o := some (Ob.lst (rs.map Va.d))) hn (show 0 < m - 1 by omega) (log_small (by omega) (by omega))
    obtain ⟨v, p2, v0, v1, ev⟩ := take_cell (p := p1) (o := some (Ob.lst (rs.map Va.d))) hn (show 0 < m - 1 by omega) (log_small (by omega) (by omega))
    obtain ⟨l, p3, l0, l1, el⟩ := take_cell (p := p2) (s := 5) (o := some (Ob.lst (rs.map Va.d))) hn (by omega)
    obtain ⟨w', p4, w0, w1, ew⟩ := take_cell (p := p3) (s := 3) (o := some (Ob.lst (rs.map Va.d))) hn (by omega)
    refine ⟨_, _, rfl, ?_⟩
    have cs : ∃ (U V : Int) (lw : Int), (if e ≤ u then u + 1 else u) = U ∧ (if U ≤ v then v + 1 else v) = V ∧ [0, 0, 1, 2, 4][l.toNat]? = some lw ∧ 0 ≤ lw ∧ lw ≤ 4 ∧ 0 ≤ U ∧ U < m ∧ U ≠ e ∧ 0 ≤ V ∧ V < m ∧ V ≠ U := by
      have hl : l = 0 ∨ l = 1 ∨ l = 2 ∨ l = 3 ∨ l = 4 := by omega
      refine ⟨_, _, (if l ≤ 1 then 0 else if l = 2 then 1 else if l = 3 then 2 else 4), rfl, rfl, ?_, ?_, ?_, ?_, ?_, ?_, ?_, ?_, ?_⟩
      · rcases hl with rfl | rfl | rfl | rfl | rfl <;> rfl
      all_goals split <;> (try split) <;> (try split) <;> omega
    obtain ⟨U, V, lw, eU, eV, elw, w0', w1', U0, U1, U2, V0, V1, V2⟩ := cs
    have hlw : atI ([PyData.int 0, .int 0, .int 1, .int 2, .int 4].map Va.d) l = some (Va.d (.int lw)) := by
      have hl : l = 0 ∨ l = 1 ∨ l = 2 ∨ l = 3 ∨ l = 4 := by omega
      rcases hl with rfl | rfl | rfl | rfl | rfl <;> (simp at elw; subst elw; rfl)
    have hlw2 : atI [Va.d (.int 0), Va.d (.int 0), Va.d (.int 1), Va.d (.int 2), Va.d (.int 4)] l = some (Va.d (.int lw)) := by
      have hl : l = 0 ∨ l = 1 ∨ l = 2 ∨ l = 3 ∨ l = 4 := by omega
      rcases hl with rfl | rfl | rfl | rfl | rfl <;> (simp at elw; subst elw; rfl)
    have go : b_l_roads_1 [some (.loc n), some (.d (.int m)), some (.d (.int e)), some (.d (.int c)), some (.loc L.length), some w, b, d] ((L ++ [some (Ob.lst (rs.map Va.d))]).set n (P1 q)) =
        .nx [some (.loc n), some (.d (.int m)), some (.d (.int e)), some (.d (.int c)), some (.loc L.length), some w, some (.d (.int U)), some (.d (.int V))] ((L ++ [some (Ob.lst ((rs ++ [PyData.tuple [.int U, .int V, .int (1 + lw), .int (1 + w')]]).map Va.d))]).set n (P1 p4)) := by
      have gt := get_top (L := L) (p := p4) (o := some (Ob.lst (rs.map Va.d))) hn
      by_cases hu : e ≤ u
      · rw [if_pos hu] at eU
        by_cases hv : U ≤ v
        · rw [if_pos hv] at eV
          simp [b_l_roads_1, eu, opGe, hu, eU, ev, hv, eV, el, hlw2, ew, get_top hn, get_top' hn, hz2, set_top hn, sizeLine_eq]
        · rw [if_neg hv] at eV
          subst eV
          simp [b_l_roads_1, eu, opGe, hu, eU, ev, hv, el, hlw2, ew, get_top hn, get_top' hn, hz2, set_top hn, sizeLine_eq]
      · rw [if_neg hu] at eU
        subst eU
        by_cases hv : u ≤ v
        · rw [if_pos hv] at eV
          simp [b_l_roads_1, eu, opGe, hu, ev, hv, eV, el, hlw2, ew, get_top hn, get_top' hn, hz2, set_top hn, sizeLine_eq]
        · rw [if_neg hv] at eV
          subst eV
          simp [b_l_roads_1, eu, opGe, hu, ev, hv, el, hlw2, ew, get_top hn, get_top' hn, hz2, set_top hn, sizeLine_eq]
    refine ⟨_, _, .inl go, rs ++ [PyData.tuple [.int U, .int V, .int (1 + lw), .int (1 + w')]], p4, _, _, _, rfl, rfl, by simp at h1 ⊢; omega, fun x hx => ?_⟩
    rcases List.mem_append.mp hx with hx | hx
    · exact h2 x hx
    · have : x = .tuple [.int U, .int V, .int (1 + lw), .int (1 + w')] := by simpa using hx
      exact ⟨U, V, 1 + lw, 1 + w', this, U0, U1, U2, V0, V1, V2, by omega, by omega, by omega, by omega⟩

def GoodWeb (top : Int) (w : PyData) : Prop := ∃ (m b e : Int) (rs : List PyData), w = .tuple [.int m, .int b, .int e, .tuple rs] ∧ 2 ≤ m ∧ m ≤ top ∧ 0 ≤ b ∧ b < m ∧ 0 ≤ e ∧ e < m ∧ b ≠ e ∧ rs.length ≤ (2 * m + 1).toNat ∧ ∀ r ∈ rs, GoodRoad m e r
theorem web_ex {L : LH} {n : Nat} {p top : Int} (hn : n < L.length) (ht : 2 ≤ top) (ht2 : top ≤ 1000) : ∃ w p', F_l_web [.loc n, .d (.int top)] (L.set n (P1 p)) = .ok (.d w) (L.set n (P1 p')) ∧ GoodWeb top w := by
  obtain ⟨a, p1, a0, a1, ea⟩ := take_ex (p := p) hn (show 0 < top - 1 by omega) (log_small (by omega) (by omega))
  obtain ⟨e, p2, e0, e1, ee⟩ := take_ex (p := p1) hn (show 0 < 2 + a by omega) (log_small (by omega) (by omega))
  obtain ⟨t, p3, t0, t1, et⟩ := take_ex (p := p2) hn (show 0 < 2 + a - 1 by omega) (log_small (by omega) (by omega))
  obtain ⟨c, p4, c0, c1, ec⟩ := take_ex (p := p3) hn (show 0 < 2 * (2 + a) + 2 by omega) (log_small (by omega) (by omega))
  obtain ⟨rs, p5, er, hl, hr⟩ := roads_ex (p := p4) (m := 2 + a) (e := e) (c := c) hn (by omega) (by omega) e0 e1 c0 (by omega)
  refine ⟨.tuple [.int (2 + a), .int ((e + 1 + t) % (2 + a)), .int e, .tuple rs], p5, ?_, 2 + a, (e + 1 + t) % (2 + a), e, rs, rfl, by omega, by omega, Int.emod_nonneg _ (by omega), Int.emod_lt_of_pos _ (by omega), e0, e1, ?_, by omega, hr⟩
  · have hm : modC (e + 1 + t) (2 + a) = true := decide_eq_true (by omega)
    have hmul : mulC 2 (2 + a) = true := by
      have := log_small (s := 2 + a) (by omega) (by omega)
      have h2 : (2 : Int).natAbs.log2 = 1 := by decide
      exact decide_eq_true (by omega)
    simp [F_l_web, b_l_web, mkFn, ea, ee, et, ec, er, hm, hmul, sizeLine_eq, outV_set0, hn]
  · by_cases h : e + 1 + t < 2 + a
    · rw [Int.emod_eq_of_lt (by omega) h]; omega
    · have : (e + 1 + t) % (2 + a) = e + 1 + t - (2 + a) := by
        rw [← Int.sub_emod_right, Int.emod_eq_of_lt (by omega) (by omega)]
      omega
end L2.HW
namespace L2.HW
open PySem PySem.Spec PyProof.Rows
theorem GoodRoad.ok {m e : Int} {r : PyData} (h : GoodRoad m e r) (hm : m ≤ 1000) : fine r = true ∧ r.depth ≤ 1 ∧ r.bulk ≤ 4 ∧ roadB m e r = true := by
  obtain ⟨u, v, l, w, rfl, h⟩ := h
  have lg : ∀ i : Int, 0 ≤ i → i ≤ 1000 → i.natAbs.log2 < 1920 := fun i h0 h1 => by
    have : i.natAbs < 2 ^ 1920 := by
      have : i.natAbs ≤ 1000 := by omega
      exact Nat.lt_of_le_of_lt this (by decide +kernel)
    by_cases z : i.natAbs = 0
    · rw [z]; decide
    · exact (Nat.log2_lt z).mpr this
  have h1 := lg u (by omega) (by omega)
  have h2 := lg v (by omega) (by omega)
  have h3 := lg l (by omega) (by omega)
  have h4 := lg w (by omega) (by omega)
  refine ⟨by simp [fine, fineAll, h1, h2, h3, h4], by simp [PyData.depth, PyData.depthAll], by simp [PyData.bulk, PyData.bulkAll], ?_⟩
  have : ¬ u = v := by omega
  simp [roadB, this]
  omega
theorem GoodWeb.ok {t : Int} {w : PyData} (h : GoodWeb t w) (ht : t ≤ 1000) : Ok 3 (4 + 5 * (2 * t + 1).toNat) w ∧ webB w = true := by
  obtain ⟨m, b, e, rs, rfl, h0, h1, h2, h3, h4, h5, h6, h7, h8⟩ := h
  have lg : ∀ i : Int, 0 ≤ i → i ≤ 1000 → i.natAbs.log2 < 1920 := fun i h0 h1 => by
    have : i.natAbs < 2 ^ 1920 := by
      have : i.natAbs ≤ 1000 := by omega
      exact Nat.lt_of_le_of_lt this (by decide +kernel)
    by_cases z : i.natAbs = 0
    · rw [z]; decide
    · exact (Nat.log2_lt z).mpr this
  have a1 := lg m (by omega) (by omega)
  have a2 := lg b (by omega) (by omega)
  have a3 := lg e (by omega) (by omega)
  have f : fineAll rs = true := fineAll_iff.mpr fun r hr => ((h8 r hr).ok (by omega)).1
  have d : PyData.depthAll rs ≤ 1 := depthAll_le.mpr fun r hr => ((h8 r hr).ok (by omega)).2.1
  have bk : ∀ rs : List PyData, (∀ r ∈ rs, r.bulk ≤ 4) → PyData.bulkAll rs ≤ 5 * rs.length := by
    intro rs
    induction rs with
    | nil => intro _; simp [PyData.bulkAll]
    | cons r rs ih =>
      intro h
      have := h r List.mem_cons_self
      have := ih fun x hx => h x (List.mem_cons_of_mem _ hx)
      simp [PyData.bulkAll]
      omega
  have b1 := bk rs fun r hr => ((h8 r hr).ok (by omega)).2.2.1
  refine ⟨⟨by simp [fine, fineAll, a1, a2, a3, f], by simp [PyData.depth, PyData.depthAll]; omega, by simp [PyData.bulk, PyData.bulkAll]; omega⟩, ?_⟩
  have : rs.all (roadB m e) = true := List.all_eq_true.mpr fun r hr => ((h8 r hr).ok (by omega)).2.2.2
  simp [webB, placeB, eqv_int, this]
  omega
end L2.HW
namespace L2.HW
open PySem PySem.Spec PyProof.Rows
theorem webB_good {W : Wb} (g : W.Good) : webB W.d = true := by
  have h : (W.rs.map Rd.d).all (roadB W.m W.e) = true := by
    rw [List.all_map]
    refine List.all_eq_true.mpr fun r hr => ?_
    have q := g.rs r hr
    have := q.u0; have := q.u1; have := q.ue; have := q.v0; have := q.v1; have := q.uv; have := q.l1; have := q.w1
    simp [roadB, Rd.d, *]
  have := g.m2; have := g.b0; have := g.b1; have := g.e0; have := g.e1; have := g.be
  simp [Wb.d, webB, placeB, eqv_int, *]
theorem look_web {W : Wb} (g : W.Good) (L : LH) : F_look_at_web [.d W.d] L = .ok (.d .none) L := by
  have h := F_is_right_web_eq W.d (by have := g.len; have := sizeLine_eq; simp [Wb.d, fewB]; omega) L
  rw [webB_good g] at h
  simp [F_look_at_web, b_look_at_web, mkFn, h]
def Wb.Sm (W : Wb) (B : Int) : Prop := ∀ r ∈ W.rs, r.l ≤ B ∧ r.w ≤ B
end L2.HW
namespace L2.HW
open PySem PySem.Spec PyProof.Rows
structure Ar where
  u : Int
  v : Int
  c : Int
  i : Nat
  cap : Int
deriving DecidableEq, Repr
def sumW (W : Wb) (h : Rd → Int → Int) (g : List Int) : Int := (List.zipWith h W.rs g).sum
end L2.HW
namespace L2.HW
open PySem PySem.Spec PyProof.Rows
def Pot (W : Wb) (g : List Int) (f : Int → Int) : Prop := ∀ i r, W.rs[i]? = some r → (g.getD i 0 < r.w → f r.v ≤ f r.u + r.l) ∧ (0 < g.getD i 0 → f r.u ≤ f r.v - r.l)
def Wth (W : Wb) (g : List Int) : Prop := g.length = W.rs.length ∧ ∀ i r, W.rs[i]? = some r → 0 ≤ g.getD i 0 ∧ g.getD i 0 ≤ r.w
end L2.HW
namespace L2.HW
open PySem PySem.Spec PyProof.Rows
end L2.HW
namespace L2.HW
open PySem PySem.Spec PyProof.Rows
structure St (W : Wb) (g : List Int) (val last : Int) (f : Int → Int) : Prop where
  wd : Wth W g
  fl : ∀ h : Int → Int, sumW W (fun r x => x * (h r.v - h r.u)) g = val * (h W.e - h W.b)
  pt : Pot W g f
  fb : f W.b = 0
  fe : f W.e = last
  nn : ∀ x, 0 ≤ f x
end L2.HW
namespace L2.HW
open PySem PySem.Spec PyProof.Rows
end L2.HW
namespace L2.HW
open PySem PySem.Spec PyProof.Rows
end L2.HW
namespace L2.HW
open PySem PySem.Spec PyProof.Rows
end L2.HW
namespace L2.HW
open PySem PySem.Spec PyProof.Rows
end L2.HW
namespace L2.HW
open PySem PySem.Spec PyProof.Rows
end L2.HW
namespace L2.HW
open PySem PySem.Spec PyProof.Rows
end L2.HW
namespace L2.HW
open PySem PySem.Spec PyProof.Rows
end L2.HW
namespace L2.HW
open PySem PySem.Spec PyProof.Rows
end L2.HW
namespace L2.HW
open PySem PySem.Spec PyProof.Rows
end L2.HW
namespace L2.HW
open PySem PySem.Spec PyProof.Rows
def wayB (rs : List Rd) (goal : Int) (sub : Int → List Int → List (List Nat)) (here : Int) (bar : List Int) (a : Rd × Nat) : List (List Nat) :=
  if a.1.u = here ∧ a.1.v = goal then [[a.2]] else if a.1.u = here ∧ a.1.v ∉ bar then (sub a.1.v (bar ++ [a.1.v])).map (a.2 :: ·) else []
def wayL (rs : List Rd) (goal : Int) : Nat → Int → List Int → List (List Nat)
  | 0, _, _ => []
  | k + 1, here, bar => rs.zipIdx.flatMap (wayB rs goal (wayL rs goal k) here bar)
end L2.HW
namespace L2.HW
open PySem PySem.Spec PyProof.Rows
def Ar.d (a : Ar) : PyData := .tuple [.int a.u, .int a.v, .int a.c, .int a.i, .int a.cap]
def UsV (L : LH) (u : Va) (g : List Int) : Prop := ∀ e : LH, (∀ i : Int, Va.dget (L ++ e) u (.d (.int i)) = none) ∧ Va.seq (L ++ e) u = some (g.map fun x => Va.d (.int x))
theorem UsV.app {L : LH} {u : Va} {g : List Int} (h : UsV L u g) (x : LH) : UsV (L ++ x) u g := fun e => by rw [List.append_assoc]; exact h _
end L2.HW
namespace L2.HW
open PySem PySem.Spec PyProof.Rows
namespace BF
variable {γ Arc : Type} {B : BF γ Arc}
end BF
structure Lb where
  x : Int
  k : Int
  a : Option Ar
deriving DecidableEq
end L2.HW
namespace L2.HW
open PySem PySem.Spec PyProof.Rows
def arO : Option Ar → PyData
  | none => .none
  | some a => a.d
def Lb.d (l : Lb) : PyData := .tuple [.int l.x, .int l.k, arO l.a]
end L2.HW
namespace L2.HW
open PySem PySem.Spec PyProof.Rows
end L2.HW
namespace L2.HW
open PySem PySem.Spec PyProof.Rows
end L2.HW
namespace L2.HW
open PySem PySem.Spec PyProof.Rows
end L2.HW
namespace L2.HW
open PySem PySem.Spec PyProof.Rows
end L2.HW
namespace L2.HW
open PySem PySem.Spec PyProof.Rows
def Ar.d4 (a : Ar) : PyData := .tuple [.int a.u, .int a.v, .int a.c, .int a.i]
end L2.HW
namespace L2.HW
open PySem PySem.Spec PyProof.Rows
end L2.HW
namespace L2.HW
open PySem PySem.Spec PyProof.Rows
end L2.HW
namespace L2.HW
open PySem PySem.Spec PyProof.Rows
def insA (l : List Int) (x : Int) : List Int := l.take (l.filter fun y => decide (y < x)).length ++ [x] ++ l.drop (l.filter fun y => decide (y < x)).length
def ascA (ns : List Int) : List Int := ns.foldl insA []
end L2.HW
namespace L2.HW
open PySem PySem.Spec PyProof.Rows
def cf (C : List Int) (x : Int) : Int := C.getD x.toNat 0
end L2.HW
namespace L2.HW
open PySem PySem.Spec PyProof.Rows
end L2.HW
namespace L2.HW
open PySem PySem.Spec PyProof.Rows
end L2.HW
namespace L2.HW
open PySem PySem.Spec PyProof.Rows
end L2.HW
namespace L2.HW
open PySem PySem.Spec PyProof.Rows
end L2.HW
namespace L2.HW
open PySem PySem.Spec PyProof.Rows
theorem repr_run {x : PyData} (h : okShow x) {w : Va} {L : LH} (hd : w.data L = some x) : cRepr [w] L = .ok (.d (.str x.shown)) L := by
  simp [hd, h]
end L2.HW
namespace L2.HW
open PySem PySem.Spec PyProof.Rows
end L2.HW
namespace L2.HW
open PySem PySem.Spec PyProof.Rows
theorem rds_of {m e : Int} : ∀ {rs : List PyData}, (∀ r ∈ rs, GoodRoad m e r) → ∃ ks : List Rd, rs = ks.map Rd.d ∧ ∀ k ∈ ks, Rd.Good m e k ∧ k.l ≤ 5 ∧ k.w ≤ 3
  | [], _ => ⟨[], rfl, by simp⟩
  | r :: rs, h => by
    obtain ⟨ks, rfl, hk⟩ := rds_of fun x hx => h x (List.mem_cons_of_mem _ hx)
    obtain ⟨u, v, l, w, rfl, h1, h2, h3, h4, h5, h6, h7, h8, h9, h10⟩ := h r List.mem_cons_self
    refine ⟨⟨u, v, l, w⟩ :: ks, rfl, fun k hk' => ?_⟩
    rcases List.mem_cons.mp hk' with rfl | hk'
    · exact ⟨⟨h1, h2, h3, h4, h5, fun z => h6 z.symm, h7, h9⟩, h8, h10⟩
    · exact hk k hk'
theorem web_of {top : Int} {w : PyData} (h : GoodWeb top w) (ht : top ≤ 1000) : ∃ W : Wb, w = W.d ∧ W.Good ∧ W.m ≤ top ∧ W.rs.length ≤ (2 * W.m + 1).toNat ∧ W.Sm 5 := by
  obtain ⟨m, b, e, rs, rfl, h0, h1, h2, h3, h4, h5, h6, h7, h8⟩ := h
  obtain ⟨ks, rfl, hk⟩ := rds_of h8
  rw [List.length_map] at h7
  exact ⟨⟨m, b, e, ks⟩, rfl, ⟨h0, by show m ≤ 1000; omega, h2, h3, h4, h5, h6, fun r hr => (hk r hr).1, by show ks.length ≤ 10000; omega⟩, h1, h7, fun r hr => ⟨(hk r hr).2.1, by have := (hk r hr).2.2; omega⟩⟩
end L2.HW
namespace L2.HW
open PySem PySem.Spec PyProof.Rows
mutual
theorem eqv_rfl : ∀ {x : PyData}, fine x = true → PyData.eqv x x = true
  | .none, _ => by simp [PyData.eqv]
  | .bool _, _ => by simp [PyData.eqv]
  | .int _, _ => by simp [PyData.eqv]
  | .str _, _ => by simp [PyData.eqv]
  | .list xs, h => by
    have h : fineAll xs = true := by simpa [fine] using h
    simp [PyData.eqv, eqvs_rfl h]
  | .tuple xs, h => by
    have h : fineAll xs = true := by simpa [fine] using h
    simp [PyData.eqv, eqvs_rfl h]
  | .dict _, h => by simp [fine] at h
theorem eqvs_rfl : ∀ {x : List PyData}, fineAll x = true → PyData.eqvAll x x = true
  | [], _ => by simp [PyData.eqvAll]
  | x :: xs, h => by
    have h : fine x = true ∧ fineAll xs = true := by simpa [fineAll] using h
    simp [PyData.eqvAll, eqv_rfl h.1, eqvs_rfl h.2]
end
end L2.HW
namespace L2.HW
open PySem PySem.Spec PyProof.Rows
end L2.HW
namespace L2.HW
open PySem PySem.Spec PyProof.Rows
end L2.HW
namespace L2.HW
open PySem PySem.Spec PyProof.Rows
end L2.HW
namespace L2.HW
open PySem PySem.Spec PyProof.Rows
end L2.HW
namespace L2.HW
open PySem PySem.Spec PyProof.Rows
end L2.HW
namespace L2.HW
open PySem PySem.Spec PyProof.Rows
end L2.HW
namespace L2.HW
open PySem PySem.Spec PyProof.Rows
end L2.HW
namespace L2.HW
open PySem PySem.Spec PyProof.Rows
abbrev Sp1 := Int × Option Int
def GoodA (acc : List Sp1) (b : Int) : Prop := (∀ s ∈ acc, 1 ≤ s.1 ∧ ∃ y, s.2 = some y ∧ s.1 ≤ y ∧ y < b) ∧ acc.Pairwise fun s u => ∃ y, s.2 = some y ∧ y + 2 ≤ u.1
def GoodE (acc : List Sp1) : Prop := (∀ s ∈ acc, 1 ≤ s.1 ∧ ∀ y, s.2 = some y → s.1 ≤ y) ∧ acc.Pairwise fun s u => ∃ y, s.2 = some y ∧ y + 2 ≤ u.1
theorem GoodA.e {acc : List Sp1} {b : Int} (g : GoodA acc b) : GoodE acc := ⟨fun s hs => ⟨(g.1 s hs).1, fun y hy => by
  obtain ⟨_, y', e, h, _⟩ := g.1 s hs
  rw [e] at hy; cases hy; exact h⟩, g.2⟩
end L2.HW
namespace L2.HW
open PySem PySem.Spec PyProof.Rows
end L2.HW
namespace L2.HW
open PySem PySem.Spec PyProof.Rows
end L2.HW
namespace L2.HW
open PySem PySem.Spec PyProof.Rows
end L2.HW
namespace L2.HW
open PySem PySem.Spec PyProof.Rows
end L2.HW
namespace L2.HW
open PySem PySem.Spec PyProof.Rows
theorem str_same (s : Str) : PyData.eqv (.str s) (.str s) = true := by simp [PyData.eqv]
theorem str_ok (s t : Str) : cmpOk (.str s) (.str t) = true := by simp [cmpOk, twoStr]
end L2.HW
namespace L2.HW
open PySem PySem.Spec PyProof.Rows
end L2.HW
namespace L2.HW
open PySem PySem.Spec PyProof.Rows
def badOne (x : PyData) : Prop := fine x = true ∧ x.depth ≤ 6 ∧ x.bulk ≤ 100 ∧ webB x = false
instance (x : PyData) : Decidable (badOne x) := by unfold badOne; infer_instance
def rd (a b c d : PyData) : PyData := .tuple [a, b, c, d]
end L2.HW
namespace L2.HW
open PySem PySem.Spec PyProof.Rows
end L2.HW
namespace L2.HW
open PySem PySem.Spec PyProof.Rows
def ext (f : Nat → Bool) (acc : List Row) (w : Nat) : List Row :=
  if f w then (match acc.getLast? with
    | some (a, b) => if b = (w : Int) - 1 then acc.dropLast ++ [(a, (w : Int))] else acc ++ [((w : Int), (w : Int))]
    | none => acc ++ [((w : Int), (w : Int))])
  else acc
end L2.HW
namespace L2.HW
open PySem PySem.Spec PyProof.Rows
def inB (t : Int) : PyData → Bool
  | .int i => decide (0 ≤ i) && decide (i ≤ t + 1)
  | _ => false
end L2.HW
namespace L2.HW
open PySem PySem.Spec PyProof.Rows
end L2.HW
namespace L2.HW
open PySem PySem.Spec PyProof.Rows
end L2.HW
namespace L2.HW
open PySem PySem.Spec PyProof.Rows
end L2.HW
namespace L2.HW
open PySem PySem.Spec PyProof.Rows
end L2.HW
namespace L2.HW
open PySem PySem.Spec PyProof.Rows L2.HW.G
def G.Ed.d (x : Ed) : PyData := .tuple [.int x.u, .int x.v, x.t.d]
end L2.HW
namespace L2.HW
open PySem PySem.Spec PyProof.Rows L2.HW.G
end L2.HW
namespace L2.HW
open PySem PySem.Spec PyProof.Rows L2.HW.G
def wt (es : List Ed) : Nat := (es.map fun d => d.t.d.depth + 2).sum
structure WE (es : List Ed) : Prop where
  fin : ∀ d ∈ es, fine d.d = true
  wt : wt es ≤ 58
theorem wt_mem {es : List Ed} {d : Ed} (h : d ∈ es) : d.t.d.depth + 2 ≤ wt es := by
  unfold wt
  induction es with
  | nil => cases h
  | cons a r ih =>
    rw [List.map_cons, List.sum_cons]
    rcases List.mem_cons.mp h with rfl | h
    · omega
    · have := ih h; omega
theorem ed_depth (d : Ed) : d.d.depth = d.t.d.depth + 1 := by
  simp [Ed.d, PyData.depth, PyData.depthAll]
theorem WE.dep {es : List Ed} (h : WE es) : ∀ d ∈ es, d.d.depth ≤ 57 := fun d hd => by
  have := wt_mem hd
  have := h.wt
  rw [ed_depth]
  omega
theorem WE.sh {es : List Ed} (h : WE es) : ∀ d ∈ es, SeqAt.shaped d.d = true := fun d hd => shaped_of (h.fin d hd) (by have := h.dep d hd; omega)
end L2.HW
namespace L2.HW
open PySem PySem.Spec PyProof.Rows L2.HW.G
end L2.HW
namespace L2.HW
open PySem PySem.Spec PyProof.Rows L2.HW.G
end L2.HW
namespace L2.HW
open PySem PySem.Spec PyProof.Rows L2.HW.G
def cnt1 (ps : List Pr) (b e : Int) (p : Pr) : Bool := decide (p.1 ∈ reach ps [b]) && decide (p.2 ∈ reach (ps.map Prod.swap) [e])
def cntL (ps : List Pr) (b e : Int) : List Nat := (ps.zipIdx.filter fun a => cnt1 ps b e a.1).map (·.2)
end L2.HW
namespace L2.HW
open PySem PySem.Spec PyProof.Rows L2.HW.G
theorem rank_ex {ps : List Pr} (h : Acy ps) : ∃ ρ : Int → Nat, ∀ x y, (x, y) ∈ ps → ρ x < ρ y := by
  obtain ⟨r, hr⟩ := h
  obtain ⟨B, hB⟩ : ∃ B : Int, ∀ p ∈ ps, B ≤ r p.1 := by
    clear hr
    induction ps with
    | nil => exact ⟨0, by simp⟩
    | cons p ps ih =>
      obtain ⟨B, hB⟩ := ih
      refine ⟨min B (r p.1), fun q hq => ?_⟩
      rcases List.mem_cons.mp hq with rfl | hq
      · omega
      · have := hB q hq; omega
  refine ⟨fun x => (r x - B).toNat, fun x y h => ?_⟩
  have h1 : r x < r y := hr (x, y) h
  have h2 : B ≤ r x := hB (x, y) h
  show (r x - B).toNat < (r y - B).toNat
  omega
theorem rch_swap {ps : List Pr} {x y : Int} : Rch (ps.map Prod.swap) y x ↔ Rch ps x y := by
  have go : ∀ {ps : List Pr} {x y : Int}, Rch ps x y → Rch (ps.map Prod.swap) y x := by
    intro ps x y h
    induction h with
    | refl => exact .refl _
    | @step y z _ e ih => exact (Rch.one (List.mem_map.mpr ⟨(y, z), e, rfl⟩)).trans ih
  constructor
  · intro h
    have := go h
    rw [List.map_map] at this
    rwa [show Prod.swap ∘ Prod.swap = (id : Pr → Pr) from funext fun p => rfl, List.map_id] at this
  · exact go
theorem rch_pth {ps : List Pr} {x y : Int} : Rch ps x y ↔ ∃ l, Pth (adjP ps) x l y := by
  constructor
  · intro h
    induction h with
    | refl => exact ⟨[], rfl⟩
    | @step y z _ e ih =>
      obtain ⟨l, hl⟩ := ih
      exact ⟨l ++ [z], pth_app hl ⟨e, rfl⟩⟩
  · rintro ⟨l, h⟩
    induction l generalizing x with
    | nil => cases h; exact .refl _
    | cons z l ih => exact (Rch.one h.1).trans (ih h.2)
theorem cnt1_iff {ps : List Pr} {b e : Int} {p : Pr} : cnt1 ps b e p = true ↔ Rch ps b p.1 ∧ Rch ps p.2 e := by
  unfold cnt1
  rw [Bool.and_eq_true, decide_eq_true_eq, decide_eq_true_eq, mem_reach, mem_reach]
  simp [rch_swap]
def ed0 (ps : List Pr) (i : Nat) : Ed := match ps[i]? with
  | some p => ⟨p.1, p.2, .rd i⟩
  | none => ⟨0, 0, .rd i⟩
def es0 (ps : List Pr) (b e : Int) : List Ed := (cntL ps b e).map (ed0 ps)
theorem mem_cntL {ps : List Pr} {b e : Int} {i : Nat} : i ∈ cntL ps b e ↔ ∃ p, ps[i]? = some p ∧ Rch ps b p.1 ∧ Rch ps p.2 e := by
  unfold cntL
  simp only [List.mem_map, List.mem_filter, cnt1_iff]
  constructor
  · rintro ⟨a, ⟨h1, h2⟩, rfl⟩
    exact ⟨a.1, List.mem_zipIdx_iff_getElem?.mp h1, h2⟩
  · rintro ⟨p, h1, h2⟩
    exact ⟨(p, i), ⟨List.mem_zipIdx_iff_getElem?.mpr h1, h2⟩, rfl⟩
theorem mem_es0 {ps : List Pr} {b e : Int} {d : Ed} : d ∈ es0 ps b e ↔ ∃ i, ps[i]? = some (d.u, d.v) ∧ d.t = .rd i ∧ Rch ps b d.u ∧ Rch ps d.v e := by
  unfold es0
  rw [List.mem_map]
  constructor
  · rintro ⟨i, hi, rfl⟩
    obtain ⟨p, h1, h2⟩ := mem_cntL.mp hi
    unfold ed0
    rw [h1]
    exact ⟨i, h1, rfl, h2⟩
  · rintro ⟨i, h1, h2, h3⟩
    refine ⟨i, mem_cntL.mpr ⟨_, h1, h3⟩, ?_⟩
    unfold ed0
    rw [h1]
    cases d
    simp at h2
    simp [h2]
theorem adj_es0 {ps : List Pr} {b e x y : Int} : adj (es0 ps b e) x y ↔ (x, y) ∈ ps ∧ Rch ps b x ∧ Rch ps y e := by
  constructor
  · rintro ⟨d, hd, rfl, rfl⟩
    obtain ⟨i, h1, _, h2⟩ := mem_es0.mp hd
    exact ⟨List.mem_of_getElem? h1, h2⟩
  · rintro ⟨h1, h2, h3⟩
    obtain ⟨i, hi⟩ := List.getElem?_of_mem h1
    exact ⟨⟨x, y, .rd i⟩, mem_es0.mpr ⟨i, hi, rfl, h2, h3⟩, rfl, rfl⟩
theorem pth_es0 {ps : List Pr} {b e : Int} : ∀ {l : List Int} {x y : Int}, Rch ps b x → Rch ps y e → Pth (adjP ps) x l y → Pth (adj (es0 ps b e)) x l y
  | [], _, _, _, _, h => h
  | z :: l, x, y, h1, h2, ⟨h3, h4⟩ => by
    have zy : Rch ps z y := rch_pth.mpr ⟨l, h4⟩
    exact ⟨adj_es0.mpr ⟨h3, h1, zy.trans h2⟩, pth_es0 (h1.trans (Rch.one h3)) h2 h4⟩
theorem gi_es0 {ps : List Pr} {b e : Int} (be : b ≠ e) {ρ : Int → Nat} (hρ : ∀ x y, (x, y) ∈ ps → ρ x < ρ y) : GI ps ρ b e (es0 ps b e) := by
  refine ⟨be, hρ, fun d hd => ?_, fun x y h => ?_, fun d hd d' hd' n q hq => ?_, fun d hd q hq => ?_⟩
  · obtain ⟨i, h1, h2, _⟩ := mem_es0.mp hd
    rw [h2]
    exact ⟨⟨d.v, h1, rfl⟩, by simp [rin]⟩
  · obtain ⟨h1, h2, h3⟩ := adj_es0.mp h
    obtain ⟨l, hl⟩ := rch_pth.mp h2
    obtain ⟨m, hm⟩ := rch_pth.mp h3
    exact ⟨⟨l, pth_es0 (.refl _) ((Rch.one h1).trans h3) hl⟩, m, pth_es0 (h2.trans (Rch.one h1)) (.refl _) hm⟩
  · obtain ⟨i, h1, h2, _⟩ := mem_es0.mp hd
    unfold inn at hq
    rw [h2] at hq
    simp [rin, vsR] at hq
  · obtain ⟨i, h1, h2, _⟩ := mem_es0.mp hd
    unfold inn at hq
    rw [h2] at hq
    simp [rin, vsR] at hq
theorem crosses_es0 {ps : List Pr} {b e : Int} : Crosses (adj (es0 ps b e)) b e ↔ Crosses (adjP ps) b e := by
  constructor
  · exact cr_on fun x y h _ _ => (adj_es0.mp h).1
  · exact cr_on fun x y h h1 h2 => adj_es0.mpr ⟨h, rch_pth.mpr h1, rch_pth.mpr h2⟩
def redS (ps : List Pr) (b e : Int) : List Ed := redE b e (es0 ps b e).length (mergeE (es0 ps b e))
end L2.HW
namespace L2.HW
open PySem PySem.Spec PyProof.Rows L2.HW.G
theorem red_one {b e : Int} {ps : List Pr} (be : b ≠ e) (ac : Acy ps) : (redS ps b e).length = 1 ↔ cntL ps b e ≠ [] ∧ ¬ Crosses (adjP ps) b e := by
  obtain ⟨ρ, hρ⟩ := rank_ex ac
  obtain ⟨r1, r2, r3, r4, r5⟩ := red_ok (es0 ps b e).length (mergeE (es0 ps b e)) (merge_len _) (gi_merge (gi_es0 be hρ)) (merge_keys _)
  have ad : adj (mergeE (es0 ps b e)) = adj (es0 ps b e) := by funext x y; exact propext (merge_adj _ x y)
  rw [ad] at r4
  have e0 : redS ps b e = [] ↔ cntL ps b e = [] := by
    unfold redS
    rw [r5]
    constructor
    · intro h
      cases hc : cntL ps b e with
      | nil => rfl
      | cons i l =>
        have he : es0 ps b e = ed0 ps i :: l.map (ed0 ps) := by unfold es0; rw [hc]; rfl
        have : adj (mergeE (es0 ps b e)) (ed0 ps i).u (ed0 ps i).v := (merge_adj _ _ _).mpr ⟨ed0 ps i, by rw [he]; simp, rfl, rfl⟩
        rw [h] at this
        obtain ⟨_, h, _⟩ := this
        cases h
    · intro h
      have : es0 ps b e = [] := by unfold es0; rw [h]; rfl
      rw [this]
      rfl
  constructor
  · intro h1
    refine ⟨fun z => ?_, fun z => ?_⟩
    · rw [e0.mpr z] at h1; cases h1
    · exact left_one h1 (r4 (crosses_es0.mpr z))
  · rintro ⟨h1, h2⟩
    have n0 : redS ps b e ≠ [] := fun z => h1 (e0.mp z)
    have n2 : ¬ 2 ≤ (redS ps b e).length := fun z => by
      obtain ⟨S, A1, A2, R1, R2, B, Q, w, x, v, zz, C⟩ := left_cross r1 r2 r3 z
      exact h2 ⟨_, _, _, _, _, _, _, _, _, _, _, cr_lift r1 C⟩
    have : (redS ps b e).length ≠ 0 := fun z => n0 (List.length_eq_zero_iff.mp z)
    omega
end L2.HW
namespace L2.HW
open PySem PySem.Spec PyProof.Rows L2.HW.G
def wo (ps : List Pr) (C : List Nat) : List Pr := (ps.zipIdx.filter fun a => decide (a.2 ∉ C)).map (·.1)
abbrev tN' (l : List Nat) : PyData := .tuple (l.map fun i : Nat => PyData.int (i : Int))
theorem mem_wo {ps : List Pr} {C : List Nat} {p : Pr} : p ∈ wo ps C ↔ ∃ i, ps[i]? = some p ∧ i ∉ C := by
  unfold wo
  simp only [List.mem_map, List.mem_filter, decide_eq_true_eq]
  constructor
  · rintro ⟨a, ⟨h1, h2⟩, rfl⟩
    exact ⟨a.2, List.mem_zipIdx_iff_getElem?.mp h1, h2⟩
  · rintro ⟨i, h1, h2⟩
    exact ⟨(p, i), ⟨List.mem_zipIdx_iff_getElem?.mpr h1, h2⟩, rfl⟩
theorem wo_sub {ps : List Pr} {C : List Nat} : ∀ p ∈ wo ps C, p ∈ ps := fun p h => by
  obtain ⟨i, h1, _⟩ := mem_wo.mp h
  exact List.mem_of_getElem? h1
theorem wo_len (ps : List Pr) (C : List Nat) : (wo ps C).length ≤ ps.length := by
  unfold wo
  rw [List.length_map]
  exact Nat.le_trans (List.length_filter_le _ _) (by rw [List.length_zipIdx]; exact Nat.le_refl _)
theorem wo_acy {ps : List Pr} (h : Acy ps) (C : List Nat) : Acy (wo ps C) := by
  obtain ⟨r, hr⟩ := h
  exact ⟨r, fun p hp => hr p (wo_sub p hp)⟩
end L2.HW
namespace L2.HW
open PySem PySem.Spec PyProof.Rows L2.HW.G
def chs : Nat → List Nat → List (List Nat)
  | 0, _ => [[]]
  | _ + 1, [] => []
  | n + 1, x :: l => (chs n l).map (x :: ·) ++ chs (n + 1) l
abbrev cell (F : List (List Nat)) : Option Ob := some (.lst ((F.map tN').map Va.d))
end L2.HW
namespace L2.HW
open PySem PySem.Spec PyProof.Rows L2.HW.G
structure Sh (m b e : Int) (ps : List Pr) : Prop where
  top : ∃ t c, GoodS t c m b e ps
  m1 : m ≤ 1000000
  len : ps.length ≤ 20
theorem Sh.be {m b e : Int} {ps : List Pr} (h : Sh m b e ps) : b ≠ e := by obtain ⟨t, c, g⟩ := h.top; exact g.be
theorem Sh.ac {m b e : Int} {ps : List Pr} (h : Sh m b e ps) : Acy ps := by obtain ⟨t, c, g⟩ := h.top; exact g.acy
theorem fine_small {i : Int} (h0 : 0 ≤ i) (h1 : i ≤ 1000000) : fine (.int i) = true := by
  have : i.natAbs.log2 < 1920 := by
    by_cases z : i.natAbs = 0
    · rw [z]; decide
    · rw [Nat.log2_lt z]
      exact Nat.lt_of_le_of_lt (show i.natAbs ≤ 1000000 by omega) (by decide +kernel)
  simpa [fine] using this
theorem Sh.fin {m b e : Int} {ps : List Pr} (h : Sh m b e ps) : ∀ p ∈ ps, fine (.int p.1) = true ∧ fine (.int p.2) = true := fun p hp => by
  obtain ⟨t, c, g⟩ := h.top
  have := g.rd p hp
  have := h.m1
  exact ⟨fine_small (by omega) (by omega), fine_small (by omega) (by omega)⟩
end L2.HW
namespace L2.HW
open PySem PySem.Spec PyProof.Rows L2.HW.G
end L2.HW
namespace L2.HW
open PySem PySem.Spec PyProof.Rows L2.HW.G
abbrev rD (r : List Ed) : PyData := .list (r.map Ed.d)
end L2.HW
namespace L2.HW
open PySem PySem.Spec PyProof.Rows
end L2.HW
namespace L2.HW
open PySem PySem.Spec PyProof.Rows L2.HW.G
end L2.HW
namespace L2.HW
open PySem PySem.Spec PyProof.Rows L2.HW.G
def rdP (p : Pr) : Rd := ⟨p.1, p.2, 1, 1⟩
end L2.HW
namespace L2.HW
open PySem PySem.Spec PyProof.Rows L2.HW.G
structure ShL (m b e : Int) (ps : List Pr) : Prop where
  sh : Sh m b e ps
  len : ps.length ≤ 16
  m1 : m ≤ 60
abbrev wy (ps : List Pr) (x y : Int) (bar : List Int) : List (List Nat) := wayL (ps.map rdP) y 70 x bar
end L2.HW
namespace L2.HW
open PySem PySem.Spec PyProof.Rows L2.HW.G
end L2.HW
namespace L2.HW
open PySem PySem.Spec PyProof.Rows L2.HW.G
def apart (xs ys : List Int) : Bool := xs.all fun x => decide (x ∉ ys)
def brB (ps : List Pr) (pl : List Int) (w v x z : Int) : Bool := (wy ps w v pl).any fun p => (wy ps x z pl).any fun q => apart (vsR ps p).dropLast (vsR ps q).dropLast
end L2.HW
namespace L2.HW
open PySem PySem.Spec PyProof.Rows L2.HW.G
def inV (r : List Ed) : List Int := (r.map Ed.v).dropLast
def DtR : Type := List Ed × List Ed × Nat × Nat
def DtR.d (r : DtR) : PyData := .tuple [rD r.1, rD r.2.1, .int (r.2.2.1 : Nat), .int (r.2.2.2 : Nat)]
end L2.HW
namespace L2.HW
open PySem PySem.Spec PyProof.Rows L2.HW.G
end L2.HW
namespace L2.HW
open PySem PySem.Spec PyProof.Rows L2.HW.G
abbrev CrR := List Ed × DtR
def CrR.d (c : CrR) : PyData := .tuple [rD c.1, rD c.2.1, rD c.2.2.1, .int (c.2.2.2.1 : Nat), .int (c.2.2.2.2 : Nat)]
mutual
def tok : Tr → Bool
  | .rd _ => true
  | .nd _ ts => !ts.isEmpty && toks ts
def toks : List Tr → Bool
  | [] => true
  | t :: ts => tok t && toks ts
end
end L2.HW
namespace L2.HW
open PySem PySem.Spec PyProof.Rows L2.HW.G
def c4 (ps : List Pr) (pl : List Int) (j k i l : Nat) : Bool := brB ps pl (pl.getD i 0) (pl.getD k 0) (pl.getD j 0) (pl.getD l 0)
def c3 (ps : List Pr) (pl : List Int) (j k i : Nat) : Bool := (List.range' (k + 1) (pl.length - (k + 1))).any (c4 ps pl j k i)
def c2 (ps : List Pr) (pl : List Int) (j k : Nat) : Bool := (List.range' 0 (j - 0)).any (c3 ps pl j k)
def c1 (ps : List Pr) (pl : List Int) (j : Nat) : Bool := (List.range' (j + 1) ((pl.length - 1) - (j + 1))).any (c2 ps pl j)
def c0 (ps : List Pr) (pl : List Int) : Bool := (List.range' 1 (pl.length - 1)).any (c1 ps pl)
end L2.HW
namespace L2.HW
open PySem PySem.Spec PyProof.Rows L2.HW.G
end L2.HW
namespace L2.HW
open PySem PySem.Spec PyProof.Rows L2.HW.G
def EP (es : List Ed) : Int → List Ed → Int → Prop
  | x, [], y => x = y
  | x, d :: r, y => d ∈ es ∧ d.u = x ∧ EP es d.v r y
end L2.HW
namespace L2.HW
open PySem PySem.Spec PyProof.Rows L2.HW.G
def ra (row : List Ed) : List Nat := row.flatMap fun d => rin d.t
end L2.HW
namespace L2.HW
open PySem PySem.Spec PyProof.Rows L2.HW.G
end L2.HW
namespace L2.HW
open PySem PySem.Spec PyProof.Rows L2.HW.G
end L2.HW
namespace L2.HW
open PySem PySem.Spec PyProof.Rows L2.HW.G
end L2.HW
namespace L2.HW
open PySem PySem.Spec PyProof.Rows L2.HW.G
end L2.HW
namespace L2.HW
open PySem PySem.Spec PyProof.Rows L2.HW.G
end L2.HW
namespace L2.HW
open PySem PySem.Spec PyProof.Rows L2.HW.G
theorem ShL.wo {m b e : Int} {ps : List Pr} (h : ShL m b e ps) (C : List Nat) : ShL m b e (wo ps C) := by
  obtain ⟨t, c, g⟩ := h.sh.top
  have wl := wo_len ps C
  have len := h.len
  refine ⟨⟨⟨t, c, ⟨g.m2, g.mt, g.b0, g.b1, g.e0, g.e1, g.be, fun p hp => g.rd p (wo_sub p hp), by have := g.len; omega, wo_acy g.acy C⟩⟩, h.sh.m1, by omega⟩, by omega, h.m1⟩
end L2.HW
namespace L2.HW
open PySem PySem.Spec PyProof.Rows L2.HW.G
end L2.HW
namespace L2.HW
open PySem PySem.Spec PyProof.Rows L2.HW.G
end L2.HW
namespace L2.HW
open PySem PySem.Spec PyProof.Rows L2.HW.G
def gtP (ps : List Pr) (k : Nat) : Pr := ps.getD k (0, 0)
end L2.HW
namespace L2.HW
open PySem PySem.Spec PyProof.Rows L2.HW.G
end L2.HW
namespace L2.HW
open PySem PySem.Spec PyProof.Rows L2.HW.G
end L2.HW
namespace L2.HW
open PySem PySem.Spec PyProof.Rows L2.HW.G
end L2.HW
namespace L2.HW
open PySem PySem.Spec PyProof.Rows L2.HW.G
end L2.HW
namespace L2.HW
open PySem PySem.Spec PyProof.Rows L2.HW.G
structure Ld where
  u : Int
  v : Int
  inn : List Int
  rds : List Nat
deriving DecidableEq, Inhabited
def Ld.d (f : Ld) : PyData := .tuple [.int f.u, .int f.v, .list (f.inn.map PyData.int), .list (f.rds.map fun i : Nat => PyData.int (i : Int))]
abbrev T3 := Int × Int × List Int
def joinLd (fs : List Ld) : Bool := (fs.zip (fs.drop 1)).all fun p => decide (p.1.v = p.2.u)
def sameLd (fs : List Ld) : Bool := fs.all fun f => decide (f.u = (fs.headD default).u) && decide (f.v = (fs.headD default).v)
def alongL (fs : List Ld) : Option T3 := if joinLd fs = true then some ((fs.headD default).u, (fs.getLast?.getD default).v, (fs.map Ld.v).dropLast ++ fs.flatMap Ld.inn) else none
def abreastL (fs : List Ld) : Option T3 := if sameLd fs = true then some ((fs.headD default).u, (fs.headD default).v, fs.flatMap Ld.inn) else none
theorem Ld.dd (f : Ld) : f.d = .tuple [.int f.u, .int f.v, .list (f.inn.map PyData.int), .list (f.rds.map fun i : Nat => PyData.int (i : Int))] := rfl
end L2.HW
namespace L2.HW
open PySem PySem.Spec PyProof.Rows L2.HW.G
end L2.HW
namespace L2.HW
open PySem PySem.Spec PyProof.Rows L2.HW.G
def allO {α : Type} : List (Option α) → Option (List α)
  | [] => some []
  | x :: r => match x, allO r with
    | some a, some l => some (a :: l)
    | _, _ => none
def closeL (t : T3) (fs : List Ld) : Option Ld := if (t.2.2 ++ [t.1, t.2.1]).Nodup then some ⟨t.1, t.2.1, t.2.2, fs.flatMap Ld.rds⟩ else none
def joinT (w : Str) (fs : List Ld) : Option Ld := match (if w = "behind" then alongL fs else abreastL fs) with
  | some t => closeL t fs
  | none => none
def lead1 (ps : List Pr) (g : PyData → Option Ld) : PyData → Option Ld
  | .int i => if 0 ≤ i ∧ i < ps.length then some ⟨(gtP ps i.toNat).1, (gtP ps i.toNat).2, [], [i.toNat]⟩ else none
  | .tuple [.str w, .tuple ts] => if (w = "behind" ∨ w = "beside") ∧ 2 ≤ ts.length then (match allO (ts.map g) with
    | some fs => joinT w fs
    | none => none) else none
  | _ => none
def leadK (ps : List Pr) : Nat → PyData → Option Ld
  | 0, _ => none
  | k + 1, x => lead1 ps (leadK ps k) x
end L2.HW
namespace L2.HW
open PySem PySem.Spec PyProof.Rows L2.HW.G
end L2.HW
namespace L2.HW
open PySem PySem.Spec PyProof.Rows L2.HW.G
end L2.HW
namespace L2.HW
open PySem PySem.Spec PyProof.Rows L2.HW.G
end L2.HW
namespace L2.HW
open PySem PySem.Spec PyProof.Rows L2.HW.G
end L2.HW
namespace L2.HW
open PySem PySem.Spec PyProof.Rows L2.HW.G
end L2.HW
namespace L2.HW
open PySem PySem.Spec PyProof.Rows L2.HW.G
end L2.HW
namespace L2.HW
open PySem PySem.Spec PyProof.Rows L2.HW.G
def Led (ps : List Pr) (t : Tr) (f : Ld) : Prop := ∀ k, t.d.depth < k → leadK ps k t.d = some f
end L2.HW
namespace L2.HW
open PySem PySem.Spec PyProof.Rows L2.HW.G
end L2.HW
namespace L2.HW.G
open PySem
mutual
/-- the roads of a tree -/
def allR : Tr → List Nat
  | .rd i => [i]
  | .nd _ ts => allRs ts
def allRs : List Tr → List Nat
  | [] => []
  | t :: ts => allR t ++ allRs ts
end
mutual
/-- a way through a tree -/
def wayT : Tr → List Nat → Prop
  | .rd i, p => p = [i]
  | .nd w ts, p => if w then wayB ts p else wayS ts p
def wayB : List Tr → List Nat → Prop
  | [], p => p = []
  | t :: ts, p => ∃ p1 p2, p = p1 ++ p2 ∧ wayT t p1 ∧ wayB ts p2
def wayS : List Tr → List Nat → Prop
  | [], _ => False
  | t :: ts, p => wayT t p ∨ wayS ts p
end
end L2.HW.G
namespace L2.HW.G
open PySem
def sub (n : Nat) (p : List Nat) (fr : Nat → Nat) : Nat → Nat := fun i => if i ∈ p then fr i - n else fr i
end L2.HW.G
namespace L2.HW.G
open PySem
end L2.HW.G
namespace L2.HW
open PySem L2.HW.G
end L2.HW
namespace L2.HW
open PySem PySem.Spec PyProof.Rows L2.HW.G
end L2.HW
namespace L2.HW
open PySem PySem.Spec PyProof.Rows L2.HW.G
end L2.HW
namespace L2.HW
open PySem PySem.Spec PyProof.Rows L2.HW.G
end L2.HW
namespace L2.HW
open PySem PySem.Spec PyProof.Rows L2.HW.G
end L2.HW
namespace L2.HW
open PySem PySem.Spec PyProof.Rows L2.HW.G
end L2.HW
namespace L2.HW
open PySem L2.HW.G
end L2.HW
namespace L2.HW
open PySem L2.HW.G
end L2.HW
namespace L2.HW
open PySem L2.HW.G
end L2.HW
namespace L2.HW
open PySem L2.HW.G
end L2.HW
namespace L2.HW
open PySem L2.HW.G
end L2.HW
namespace L2.HW
open PySem L2.HW.G
end L2.HW
namespace L2.HW
open PySem L2.HW.G
end L2.HW
namespace L2.HW
open PySem L2.HW.G
end L2.HW
namespace L2.HW
open PySem L2.HW.G
end L2.HW
namespace L2.HW.G
open PySem
theorem rk_down {E : Int → Int → Prop} {ρ : Int → Nat} (hρ : ∀ x y, E x y → ρ x < ρ y) {l : List Int} {x y : Int} (h : Pth E x l y) : ∀ q ∈ x :: l, ρ q ≤ ρ y := fun q hq => by
  rcases List.mem_cons.mp hq with rfl | hq
  · exact (rk_end hρ h).1
  · exact rk_le hρ h q hq
theorem cr_ext {E E' : Int → Int → Prop} {ρ : Int → Nat} (hρ : ∀ x y, E' x y → ρ x < ρ y) (k : ∀ x y, E x y → E' x y) {b e b' e' : Int} {P P2 : List Int} (p1 : Pth E' b' P b) (p2 : Pth E' e P2 e') (h : Crosses E b e) : Crosses E' b' e' := by
  obtain ⟨S, A1, A2, R1, R2, B, Q, w, x, v, z, C⟩ := h
  have s := pth_mono k C.s
  have a1 := pth_mono k C.a1
  have a2 := pth_mono k C.a2
  have r1 := pth_mono k C.r1
  have r2 := pth_mono k C.r2
  have pb := pth_mono k C.pb
  have pq := pth_mono k C.pq
  have S' := pth_app p1 s
  have R' := pth_app r2 p2
  refine ⟨P ++ S, A1, A2, R1, R2 ++ P2, B, Q, w, x, v, z, S', a1, a2, r1, R', pb, pq, C.n1, C.n2, C.n3, ?_⟩
  have main := pth_nodup hρ (pth_app S' (pth_app a1 (pth_app a2 (pth_app r1 R'))))
  have wx := (rk_end hρ a1).2 C.n1
  have xv := (rk_end hρ a2).2 C.n2
  have vz := (rk_end hρ r1).2 C.n3
  have nd := C.nd
  have hB : ∀ q ∈ B.dropLast, ρ w < ρ q ∧ ρ q < ρ v := fun q hq => ⟨rk_mem hρ pb q ((List.dropLast_subset _ hq)), rk_lt hρ pb q hq⟩
  have hQ : ∀ q ∈ Q.dropLast, ρ x < ρ q ∧ ρ q < ρ z := fun q hq => ⟨rk_mem hρ pq q ((List.dropLast_subset _ hq)), rk_lt hρ pq q hq⟩
  have e1 : (b :: (S ++ A1 ++ A2 ++ R1 ++ R2 ++ B.dropLast ++ Q.dropLast)) = (b :: S) ++ ((A1 ++ A2 ++ R1) ++ (R2 ++ (B.dropLast ++ Q.dropLast))) := by simp
  rw [e1] at nd
  obtain ⟨_, n2, _⟩ := List.nodup_append.mp nd
  obtain ⟨_, n3, d1⟩ := List.nodup_append.mp n2
  obtain ⟨_, n4, _⟩ := List.nodup_append.mp n3
  have e2 : (b' :: (P ++ S ++ A1 ++ A2 ++ R1 ++ (R2 ++ P2) ++ B.dropLast ++ Q.dropLast)) = (b' :: (P ++ S ++ (A1 ++ (A2 ++ (R1 ++ (R2 ++ P2)))))) ++ (B.dropLast ++ Q.dropLast) := by simp
  rw [e2, List.nodup_append]
  refine ⟨main, n4, fun p hp q hq e => ?_⟩
  subst e
  have hq2 : ρ w < ρ p ∧ ρ p < ρ z := by
    rcases List.mem_append.mp hq with h | h
    · have := hB p h; omega
    · have := hQ p h; omega
  have : p ∈ (b' :: (P ++ S)) ∨ p ∈ A1 ++ A2 ++ R1 ∨ p ∈ R2 ++ P2 := by
    simp only [List.mem_cons, List.mem_append] at hp ⊢
    rcases hp with h | (h | h) | h | h | h | h | h
    · exact .inl (.inl h)
    · exact .inl (.inr (.inl h))
    · exact .inl (.inr (.inr h))
    · exact .inr (.inl (.inl (.inl h)))
    · exact .inr (.inl (.inl (.inr h)))
    · exact .inr (.inl (.inr h))
    · exact .inr (.inr (.inl h))
    · exact .inr (.inr (.inr h))
  rcases this with h | h | h
  · have := rk_down hρ S' p h
    omega
  · exact d1 p h p (List.mem_append_right _ hq) rfl
  · have := rk_mem hρ R' p h
    omega
theorem cr_mono {E E' : Int → Int → Prop} {ρ : Int → Nat} (hρ : ∀ x y, E' x y → ρ x < ρ y) (k : ∀ x y, E x y → E' x y) {b e : Int} (h : Crosses E b e) : Crosses E' b e := cr_ext hρ k (P := []) (P2 := []) rfl rfl h
end L2.HW.G
namespace L2.HW.G
open PySem
structure Core (E : Int → Int → Prop) (A1 A2 R1 B Q : List Int) (w x v z : Int) : Prop where
  a1 : Pth E w A1 x
  a2 : Pth E x A2 v
  r1 : Pth E v R1 z
  pb : Pth E w B v
  pq : Pth E x Q z
  n1 : A1 ≠ []
  n2 : A2 ≠ []
  n3 : R1 ≠ []
  nd : (A1 ++ A2 ++ R1 ++ (B.dropLast ++ Q.dropLast)).Nodup
theorem Cr.core {E : Int → Int → Prop} {b e : Int} {S A1 A2 R1 R2 B Q : List Int} {w x v z : Int} (C : Cr E b e S A1 A2 R1 R2 B Q w x v z) : Core E A1 A2 R1 B Q w x v z := by
  refine ⟨C.a1, C.a2, C.r1, C.pb, C.pq, C.n1, C.n2, C.n3, ?_⟩
  have nd := C.nd
  have e1 : (b :: (S ++ A1 ++ A2 ++ R1 ++ R2 ++ B.dropLast ++ Q.dropLast)) = (b :: S) ++ ((A1 ++ A2 ++ R1) ++ (R2 ++ (B.dropLast ++ Q.dropLast))) := by simp
  rw [e1] at nd
  obtain ⟨_, n2, _⟩ := List.nodup_append.mp nd
  refine List.Sublist.nodup (List.Sublist.append (List.Sublist.refl _) (List.sublist_append_right _ _)) n2
end L2.HW.G
namespace L2.HW
open PySem PySem.Spec PyProof.Rows
structure Gr (m : Int) (es : List Pr) : Prop where
  m2 : 2 ≤ m
  m7 : m ≤ 7
  rd : ∀ p ∈ es, 0 ≤ p.1 ∧ p.1 < m ∧ 0 ≤ p.2 ∧ p.2 < m ∧ p.1 ≠ 1
  acy : Acy es
theorem Acy.sub {ps qs : List Pr} (h : Acy qs) (hs : ∀ p ∈ ps, p ∈ qs) : Acy ps := let ⟨r, hr⟩ := h; ⟨r, fun p hp => hr p (hs p hp)⟩
theorem Gr.split {m : Int} {es : List Pr} (h : Gr m es) (h7 : m < 7) (i : Nat) (hi : i < es.length) : Gr (m + 1) (es.take i ++ [(es[i].1, m), (m, es[i].2)] ++ es.drop (i + 1)) := by
  have hr := h.rd _ (List.getElem_mem hi)
  have m2 := h.m2
  refine ⟨by omega, by omega, fun p hp => ?_, ?_⟩
  · simp only [List.mem_append, List.mem_cons, List.not_mem_nil, or_false] at hp
    rcases hp with (hp | rfl | rfl) | hp
    · have := h.rd p (List.mem_of_mem_take hp); exact ⟨this.1, by omega, this.2.2.1, by omega, this.2.2.2.2⟩
    · exact ⟨hr.1, by show es[i].1 < m + 1; omega, by show 0 ≤ m; omega, by show m < m + 1; omega, hr.2.2.2.2⟩
    · exact ⟨by show 0 ≤ m; omega, by show m < m + 1; omega, hr.2.2.1, by show es[i].2 < m + 1; omega, by show m ≠ 1; omega⟩
    · have := h.rd p (List.mem_of_mem_drop hp); exact ⟨this.1, by omega, this.2.2.1, by omega, this.2.2.2.2⟩
  · obtain ⟨r, hr'⟩ := h.acy
    have old : ∀ x, x < m → (if x = m then 2 * r es[i].1 + 1 else 2 * r x) = 2 * r x := fun x hx => if_neg (by omega)
    refine ⟨fun x => if x = m then 2 * r es[i].1 + 1 else 2 * r x, fun p hp => ?_⟩
    simp only [List.mem_append, List.mem_cons, List.not_mem_nil, or_false] at hp
    rcases hp with (hp | rfl | rfl) | hp
    · have h1 := h.rd p (List.mem_of_mem_take hp); have h2 := hr' p (List.mem_of_mem_take hp)
      simp only [old _ h1.2.1, old _ h1.2.2.2.1]; omega
    · simp only [old _ hr.2.1, if_true]; omega
    · have := hr' _ (List.getElem_mem hi)
      simp only [old _ hr.2.2.2.1, if_true]; omega
    · have h1 := h.rd p (List.mem_of_mem_drop hp); have h2 := hr' p (List.mem_of_mem_drop hp)
      simp only [old _ h1.2.1, old _ h1.2.2.2.1]; omega
theorem Gr.twice {m : Int} {es : List Pr} (h : Gr m es) (i : Nat) (hi : i < es.length) : Gr m (es.take i ++ [(es[i].1, es[i].2)] ++ es.drop i) := by
  have sub : ∀ p ∈ es.take i ++ [(es[i].1, es[i].2)] ++ es.drop i, p ∈ es := fun p hp => by
    simp only [List.mem_append, List.mem_cons, List.not_mem_nil, or_false] at hp
    rcases hp with (hp | rfl) | hp
    · exact List.mem_of_mem_take hp
    · exact List.getElem_mem hi
    · exact List.mem_of_mem_drop hp
  exact ⟨h.m2, h.m7, fun p hp => h.rd p (sub p hp), h.acy.sub sub⟩
end L2.HW
namespace L2.HW
open PySem PySem.Spec PyProof.Rows L2.HW.G
theorem cnt_rch {b e : Int} {ps : List Pr} (be : b ≠ e) : cntL ps b e ≠ [] ↔ Rch ps b e := by
  constructor
  · intro h
    obtain ⟨i, hi⟩ := List.exists_mem_of_ne_nil _ h
    obtain ⟨p, hp, h1, h2⟩ := mem_cntL.mp hi
    exact (h1.step (List.mem_of_getElem? hp)).trans h2
  · intro h
    obtain ⟨l, hl⟩ := rch_pth.mp h
    cases l with
    | nil => exact absurd hl be
    | cons c l =>
      obtain ⟨h1, h2⟩ := hl
      obtain ⟨i, hi⟩ := List.mem_iff_getElem?.mp (show (b, c) ∈ ps from h1)
      have : i ∈ cntL ps b e := mem_cntL.mpr ⟨(b, c), hi, .refl _, rch_pth.mpr ⟨_, h2⟩⟩
      exact fun z => by rw [z] at this; simp at this
theorem Rch.map {ps qs : List Pr} {φ : Int → Int} (k : ∀ p ∈ ps, Rch qs (φ p.1) (φ p.2)) {x y : Int} (h : Rch ps x y) : Rch qs (φ x) (φ y) := by
  induction h with
  | refl => exact .refl _
  | step _ m ih => exact ih.trans (k _ m)
theorem mem_cut3 {es : List Pr} {i : Nat} (hi : i < es.length) (p : Pr) : p ∈ es ↔ p ∈ es.take i ∨ p = es[i] ∨ p ∈ es.drop (i + 1) := by
  have e : es = es.take i ++ (es[i] :: es.drop (i + 1)) := by
    rw [← List.drop_eq_getElem_cons hi, List.take_append_drop]
  have h : p ∈ es.take i ++ (es[i] :: es.drop (i + 1)) ↔ p ∈ es.take i ∨ p = es[i] ∨ p ∈ es.drop (i + 1) := by rw [List.mem_append, List.mem_cons]
  rw [← e] at h
  exact h
structure Gn (m : Int) (es : List Pr) : Prop where
  gr : Gr m es
  nc : ¬ Crosses (adjP es) 0 1
  rc : Rch es 0 1
theorem Gn.split {m : Int} {es : List Pr} (h : Gn m es) (h7 : m < 7) (i : Nat) (hi : i < es.length) : Gn (m + 1) (es.take i ++ [(es[i].1, m), (m, es[i].2)] ++ es.drop (i + 1)) := by
  have g := h.gr.split h7 i hi
  have m2 := h.gr.m2
  have hr := h.gr.rd _ (List.getElem_mem hi)
  have mem : ∀ p, p ∈ es.take i ++ [(es[i].1, m), (m, es[i].2)] ++ es.drop (i + 1) ↔ (p ∈ es.take i ∨ p = (es[i].1, m) ∨ p = (m, es[i].2) ∨ p ∈ es.drop (i + 1)) := fun p => by
    simp only [List.mem_append, List.mem_cons, List.not_mem_nil, or_false]
    constructor
    · rintro ((h | h | h) | h)
      · exact .inl h
      · exact .inr (.inl h)
      · exact .inr (.inr (.inl h))
      · exact .inr (.inr (.inr h))
    · rintro (h | h | h | h)
      · exact .inl (.inl h)
      · exact .inl (.inr (.inl h))
      · exact .inl (.inr (.inr h))
      · exact .inr h
  have old : ∀ p, p ∈ es.take i ∨ p ∈ es.drop (i + 1) → p.1 ≠ m ∧ p.2 ≠ m := fun p hp => by
    have : p ∈ es := by
      rcases hp with hp | hp
      · exact List.mem_of_mem_take hp
      · exact List.mem_of_mem_drop hp
    have := h.gr.rd p this
    exact ⟨by omega, by omega⟩
  refine ⟨g, fun hc => h.nc ?_, ?_⟩
  · obtain ⟨ρ, hρ⟩ := rank_ex g.acy
    refine cr_contract (p := m) (a := es[i].1) (c := es[i].2) hρ ⟨fun x hx => ?_, fun y hy => ?_, fun x y hx h1 h2 => ?_, List.getElem_mem hi, (mem _).mpr (.inr (.inl rfl)), (mem _).mpr (.inr (.inr (.inl rfl)))⟩ (by omega) (by omega) hc
    · rcases (mem _).mp hx with k | k | k | k
      · exact absurd rfl (old _ (.inl k)).2
      · exact congrArg Prod.fst k
      · have : m = es[i].2 := congrArg Prod.snd k
        omega
      · exact absurd rfl (old _ (.inr k)).2
    · rcases (mem _).mp hy with k | k | k | k
      · exact absurd rfl (old _ (.inl k)).1
      · have : m = es[i].1 := congrArg Prod.fst k
        omega
      · exact congrArg Prod.snd k
      · exact absurd rfl (old _ (.inr k)).1
    · rcases (mem _).mp hx with k | k | k | k
      · exact List.mem_of_mem_take k
      · exact absurd (congrArg Prod.snd k) h2
      · exact absurd (congrArg Prod.fst k) h1
      · exact List.mem_of_mem_drop k
  · refine Rch.map (φ := fun x => x) (fun p hp => ?_) h.rc
    rcases (mem_cut3 hi p).mp hp with k | k | k
    · exact .step (.refl _) ((mem _).mpr (.inl k))
    · rw [k]
      exact .step (.step (.refl _) ((mem _).mpr (.inr (.inl rfl)))) ((mem _).mpr (.inr (.inr (.inl rfl))))
    · exact .step (.refl _) ((mem _).mpr (.inr (.inr (.inr k))))
theorem Gn.twice {m : Int} {es : List Pr} (h : Gn m es) (i : Nat) (hi : i < es.length) : Gn m (es.take i ++ [(es[i].1, es[i].2)] ++ es.drop i) := by
  have sub : ∀ p ∈ es.take i ++ [(es[i].1, es[i].2)] ++ es.drop i, p ∈ es := fun p hp => by
    simp only [List.mem_append, List.mem_cons, List.not_mem_nil, or_false] at hp
    rcases hp with (hp | rfl) | hp
    · exact List.mem_of_mem_take hp
    · exact List.getElem_mem hi
    · exact List.mem_of_mem_drop hp
  have sup : ∀ p ∈ es, p ∈ es.take i ++ [(es[i].1, es[i].2)] ++ es.drop i := fun p hp => by
    rw [← List.take_append_drop i es] at hp
    rcases List.mem_append.mp hp with k | k
    · exact List.mem_append_left _ (List.mem_append_left _ k)
    · exact List.mem_append_right _ k
  obtain ⟨ρ, hρ⟩ := rank_ex h.gr.acy
  exact ⟨h.gr.twice i hi, fun hc => h.nc (cr_mono hρ (fun x y k => sub _ k) hc), Rch.map (φ := fun x => x) (fun p hp => .step (.refl _) (sup p hp)) h.rc⟩
end L2.HW
namespace L2.HW
open PySem PySem.Spec PyProof.Rows L2.HW.G
end L2.HW
namespace L2.HW
open PySem PySem.Spec PyProof.Rows L2.HW.G
end L2.HW
namespace L2.HW
open PySem PySem.Spec PyProof.Rows L2.HW.G
end L2.HW
namespace L2.HW
open PySem PySem.Spec PyProof.Rows L2.HW.G
abbrev putF (f : Nat → Int) (k : Nat) (v : Int) : Nat → Int := fun i => if i = k then v else f i
end L2.HW
namespace L2.HW
open PySem PySem.Spec PyProof.Rows L2.HW.G
end L2.HW
namespace L2.HW
open PySem PySem.Spec PyProof.Rows L2.HW.G
end L2.HW
namespace L2.HW
open PySem PySem.Spec PyProof.Rows L2.HW.G
theorem fine_nat {i : Nat} (h : i ≤ 1000000) : fine (.int (i : Int)) = true := fine_small (by omega) (by omega)
theorem fine_tN {C : List Nat} (h : ∀ i ∈ C, i ≤ 1000000) : fine (tN' C) = true := by
  have : fineAll (C.map fun i : Nat => PyData.int (i : Int)) = true := fineAll_iff.mpr fun x hx => by
    obtain ⟨i, hi, rfl⟩ := List.mem_map.mp hx
    exact fine_nat (h i hi)
  simpa [fine] using this
theorem dep_tN (C : List Nat) : (tN' C).depth ≤ 1 := by
  have : PyData.depthAll (C.map fun i : Nat => PyData.int (i : Int)) ≤ 0 := depthAll_le.mpr fun x hx => by
    obtain ⟨i, hi, rfl⟩ := List.mem_map.mp hx
    simp [PyData.depth]
  simp only [PyData.depth]
  omega
end L2.HW
namespace L2.HW
open PySem PySem.Spec PyProof.Rows L2.HW.G
def shortE' (es : List Ed) (b e : Int) : Option (List Ed) := (ascA (once ((es.filter fun d => decide (d.v ≠ b) && decide (d.v ≠ e)).map (·.v)))).findSome? (shortAt es)
def redE' (b e : Int) : Nat → List Ed → List Ed
  | 0, es => es
  | n + 1, es => match shortE' es b e with
    | some es' => redE' b e n (mergeE es')
    | none => es
def treeX (ps : List Pr) (b e : Int) (C : List Nat) : Bool := (redE' b e (es0 (wo ps C) b e).length (mergeE (es0 (wo ps C) b e))).length == 1
def fewX (ps : List Pr) (b e : Int) : Option (List Nat) := (List.range (cntL ps b e).length).findSome? fun n => (chs n (cntL ps b e)).find? (treeX ps b e)
def s9 : List Pr := [(0,1),(0,2),(1,2),(1,3),(2,3)]
def s10 : List Pr := [(0,1),(0,2),(1,2),(1,2),(1,3),(2,3),(0,1)]
def s11 : List Pr := s9 ++ [(3,4),(3,5),(4,5),(4,6),(5,6)]
def s12 : List Pr := [(1,4),(0,1),(0,2),(0,3),(2,3),(2,4),(3,4),(1,2)]
def s13 : List Pr := [(0,1),(0,2),(0,3),(0,4),(1,2),(2,3),(3,4),(1,5),(2,5),(3,5),(4,5)]
def s14 : List Pr := [(1,2),(1,3),(1,4),(2,3),(3,4),(2,5),(3,5),(4,5)]
def s15 : List Pr := [(0,1)] ++ s14 ++ [(0,5)]
def s16 : List Pr := s14.map fun p => (p.1 - 1, p.2 - 1)
def s17 : List Pr := [(0,1),(1,2),(1,3),(2,3),(2,4),(3,4),(4,5),(4,6),(5,6),(5,7),(6,7),(0,7)]
theorem f9 : fewX s9 0 3 = some [0] := by decide +kernel
theorem f10 : fewX s10 0 3 = some [1] := by decide +kernel
theorem f11 : fewX s11 0 6 = some [0, 5] := by decide +kernel
theorem f12 : fewX s12 0 4 = some [0, 3] := by decide +kernel
theorem f13 : fewX s13 0 5 = some [0, 1, 2] := by decide +kernel
theorem f15 : fewX s15 0 5 = some [0] := by decide +kernel
theorem f17 : fewX s17 0 7 = some [0] := by decide +kernel
theorem f16 : (fewX s16 0 4).map List.length = some 2 := by decide +kernel
end L2.HW
namespace L2.HW
open PySem PySem.Spec PyProof.Rows L2.HW.G
end L2.HW
namespace L2.HW
open PySem PySem.Spec PyProof.Rows L2.HW.G
end L2.HW
namespace L2.HW
open PySem PySem.Spec PyProof.Rows L2.HW.G
theorem ne_self {x : PyData} (h : fine x = true) (hd : x.depth ≤ 60) : cmpOk x x = true ∧ PyData.eqv x x = true := ⟨cmpOk_of (shaped_of h (by omega)) (shaped_of h (by omega)), eqv_rfl h⟩
end L2.HW
namespace L2.HW
open PySem PySem.Spec PyProof.Rows L2.HW.G
end L2.HW
namespace L2.HW
open PySem PySem.Spec PyProof.Rows L2.HW.G
def RowN (x : PyData) : Prop := ∃ p : List Nat, x = tN' p ∧ p.length ≤ 20 ∧ ∀ i ∈ p, i ≤ 1000
theorem bulk_tN (C : List Nat) : PyData.bulkAll (C.map fun i : Nat => PyData.int (i : Int)) = C.length := by
  induction C with
  | nil => rfl
  | cons a r ih => rw [List.map_cons, List.length_cons, ← ih]; simp [PyData.bulkAll, PyData.bulk]; omega
theorem RowN.ok {x : PyData} (h : RowN x) : Ok 1 30 x := by
  obtain ⟨p, rfl, h1, h2⟩ := h
  refine ⟨fine_tN fun i hi => by have := h2 i hi; omega, dep_tN p, ?_⟩
  have := bulk_tN p
  simp only [PyData.bulk]
  omega
end L2.HW
namespace L2.HW
open PySem PySem.Spec PyProof.Rows L2.HW.G
theorem Ok.tup {d b : Nat} {xs : List PyData} (h : ∀ x ∈ xs, Ok d b x) : Ok (d + 1) (xs.length * (b + 1)) (.tuple xs) := by
  refine ⟨?_, ?_, ?_⟩
  · simp only [fine]
    exact fineAll_iff.mpr fun x hx => (h x hx).1
  · simp only [PyData.depth]
    have : PyData.depthAll xs ≤ d := depthAll_le.mpr fun x hx => (h x hx).2.1
    omega
  · simp only [PyData.bulk]
    induction xs with
    | nil => simp [PyData.bulkAll]
    | cons a r ih =>
      have h1 := (h a List.mem_cons_self).2.2
      have h2 := ih fun x hx => h x (List.mem_cons_of_mem _ hx)
      simp only [PyData.bulkAll, List.length_cons]
      rw [Nat.add_mul]
      omega
theorem Ok.lst {d b : Nat} {xs : List PyData} (h : Ok d b (.tuple xs)) : Ok d b (.list xs) := by
  obtain ⟨h1, h2, h3⟩ := h
  exact ⟨by simpa [fine] using h1, by simpa [PyData.depth] using h2, by simpa [PyData.bulk] using h3⟩
end L2.HW
namespace L2.HW
open PySem PySem.Spec PyProof.Rows L2.HW.G
end L2.HW
namespace L2.HW
open PySem PySem.Spec PyProof.Rows L2.HW.G
theorem Ok.int {i : Int} (h0 : 0 ≤ i) (h1 : i ≤ 1000000) {d b : Nat} : Ok d b (.int i) := ⟨fine_small h0 h1, by simp [PyData.depth], by simp [PyData.bulk]⟩
end L2.HW
namespace L2.HW
open PySem PySem.Spec PyProof.Rows L2.HW.G
end L2.HW
namespace L2.HW
open PySem PySem.Spec PyProof.Rows L2.HW.G
abbrev dep : List Pr := [(0, 1), (1, 2), (2, 3), (0, 4), (4, 5), (5, 2), (1, 5), (5, 3)]
abbrev loo : List Pr := [(0, 1), (1, 2), (2, 3), (0, 2), (1, 4), (4, 3), (1, 5), (5, 3)]
abbrev t3 (p q r : List Nat) : PyData := .tuple [tN' p, tN' q, tN' r]
end L2.HW
namespace L2.HW
open PySem PySem.Spec PyProof.Rows L2.HW.G
theorem Gr.drop {m : Int} {es : List Pr} (h : Gr m es) : Gr m (es.drop 1) := ⟨h.m2, h.m7, fun p hp => h.rd p (List.mem_of_mem_drop hp), Acy.sub h.acy fun p hp => List.mem_of_mem_drop hp⟩
end L2.HW
namespace L2.HW
open PySem PySem.Spec PyProof.Rows L2.HW.G
abbrev Sq := Int × Int × Int × List Pr
abbrev qa : Sq := (7, 0, 3, [(0, 1), (0, 2), (1, 2), (1, 3), (2, 3), (0, 3)])
abbrev qb : Sq := (9, 8, 3, [(0, 1), (0, 2), (1, 2), (1, 3), (2, 3), (8, 0), (8, 7), (7, 3), (6, 3)])
abbrev qd : Sq := (8, 0, 7, [(0, 1), (0, 1), (1, 2), (2, 3), (3, 4), (4, 5), (5, 6), (6, 7), (5, 7), (1, 6)])
abbrev qe : Sq := (5, 0, 4, [(0, 1), (1, 3), (3, 4), (0, 2), (2, 3), (1, 2), (2, 4)])
end L2.HW
namespace L2.HW
open PySem PySem.Spec PyProof.Rows L2.HW.G
end L2.HW
namespace L2.HW
open PySem PySem.Spec PyProof.Rows L2.HW.G
end L2.HW
namespace L2.HW
open PySem PySem.Spec PyProof.Rows L2.HW.G
end L2.HW
namespace L2.HW
open PySem PySem.Spec PyProof.Rows L2.HW.G
end L2.HW
namespace L2.HW
open PySem PySem.Spec PyProof.Rows L2.HW.G
end L2.HW
namespace L2.HW
open PySem PySem.Spec PyProof.Rows L2.HW.G
end L2.HW
namespace L2.HW.G
open PySem
end L2.HW.G
namespace L2.HW
open PySem PySem.Spec PyProof.Rows L2.HW.G
theorem Acy.sl {qs ps : List Pr} (ac : Acy ps) (h : qs.Sublist ps) : Acy qs := ac.sub fun p hp => h.subset hp
end L2.HW
namespace L2.HW
open PySem PySem.Spec PyProof.Rows L2.HW.G
theorem GoodS.sl {t c m b e : Int} {ps qs : List Pr} (g : GoodS t c m b e ps) (h : qs.Sublist ps) : GoodS t c m b e qs := ⟨g.m2, g.mt, g.b0, g.b1, g.e0, g.e1, g.be, fun p hp => g.rd p (h.subset hp), by have := h.length_le; have := g.len; omega, g.acy.sl h⟩
end L2.HW
namespace L2.HW
open PySem PySem.Spec PyProof.Rows L2.HW.G
end L2.HW
namespace L2.HW
open PySem PySem.Spec PyProof.Rows L2.HW.G
end L2.HW
namespace L2.HW
open PySem L2.HW.G
mutual
theorem Tr.ind {P : Tr → Prop} (h1 : ∀ i, P (.rd i)) (h2 : ∀ w ts, (∀ t ∈ ts, P t) → P (.nd w ts)) : ∀ t, P t
  | .rd i => h1 i
  | .nd w ts => h2 w ts (Tr.inds h1 h2 ts)
theorem Tr.inds {P : Tr → Prop} (h1 : ∀ i, P (.rd i)) (h2 : ∀ w ts, (∀ t ∈ ts, P t) → P (.nd w ts)) : ∀ ts : List Tr, ∀ t ∈ ts, P t
  | [], _, h => nomatch h
  | s :: ts, t, h => (List.mem_cons.mp h).elim (fun e => e ▸ Tr.ind h1 h2 s) (Tr.inds h1 h2 ts t)
end
mutual
/-- two parts or more everywhere -/
def wf2 : Tr → Prop
  | .rd _ => True
  | .nd _ ts => 2 ≤ ts.length ∧ wf2s ts
def wf2s : List Tr → Prop
  | [] => True
  | t :: ts => wf2 t ∧ wf2s ts
end
def lsT (t : Tr) : Int := (minI ((allR t).map fun i : Nat => (i : Int))).getD 0
def flat1 (w : Bool) : Tr → List Tr
  | .rd i => [.rd i]
  | .nd w' us => if w' = w then us else [.nd w' us]
def byL (l : List Tr) : List Tr := (sortKy ((l.map lsT).zip l)).map (·.2)
def ordW (w : Bool) (l : List Tr) : List Tr := if w then l else byL l
mutual
def plnT : Tr → Tr
  | .rd i => .rd i
  | .nd w ts => .nd w (ordW w ((plnTs ts).flatMap (flat1 w)))
def plnTs : List Tr → List Tr
  | [] => []
  | t :: ts => plnT t :: plnTs ts
end
end L2.HW
namespace L2.HW
open PySem L2.HW.G
structure LdE (f g : Ld) : Prop where
  u : f.u = g.u
  v : f.v = g.v
  inn : f.inn.Perm g.inn
  rds : f.rds.Perm g.rds
theorem LdE.refl (f : Ld) : LdE f f := ⟨rfl, rfl, .refl _, .refl _⟩
theorem LdE.symm {f g : Ld} (h : LdE f g) : LdE g f := ⟨h.u.symm, h.v.symm, h.inn.symm, h.rds.symm⟩
theorem LdE.trans {f g k : Ld} (h : LdE f g) (j : LdE g k) : LdE f k := ⟨h.u.trans j.u, h.v.trans j.v, h.inn.trans j.inn, h.rds.trans j.rds⟩
def LqT (ps : List Pr) (t : Tr) (f : Ld) : Prop := ∃ f', Led ps t f' ∧ LdE f' f
end L2.HW
namespace L2.HW
open PySem L2.HW.G
structure Rgd (t t' : Tr) : Prop where
  wf : wf2 t'
  all : (allR t').Perm (allR t)
  lq : ∀ (ps : List Pr) (f : Ld), LqT ps t f → LqT ps t' f
  pl : (allR t).Nodup → plnT t' = plnT t
theorem Rgd.refl {t : Tr} (h : wf2 t) : Rgd t t := ⟨h, .refl _, fun _ _ h => h, fun _ => rfl⟩
theorem Rgd.trans {a b c : Tr} (h : Rgd a b) (k : Rgd b c) : Rgd a c :=
  ⟨k.wf, k.all.trans h.all, fun ps f x => k.lq ps f (h.lq ps f x), fun nd => (k.pl (h.all.nodup_iff.mpr nd)).trans (h.pl nd)⟩
end L2.HW
namespace L2.HW
open PySem PySem.Spec PyProof.Rows L2.HW.G
end L2.HW
namespace L2.HW
open PySem PySem.Spec PyProof.Rows L2.HW.G
end L2.HW
namespace L2.HW
open PySem PySem.Spec PyProof.Rows L2.HW.G
end L2.HW
namespace L2.HW
open PySem PySem.Spec PyProof.Rows L2.HW.G
end L2.HW
namespace L2.HW
open PySem PySem.Spec PyProof.Rows L2.HW.G
end L2.HW
namespace L2.HW
open PySem PySem.Spec PyProof.Rows L2.HW.G
end L2.HW
namespace L2.HW
open PySem PySem.Spec PyProof.Rows L2.HW.G
abbrev rV (o : Option Pr) : Va := match o with
  | none => .d .none
  | some q => vP q
end L2.HW
namespace L2.HW
open PySem PySem.Spec PyProof.Rows L2.HW.G
end L2.HW
namespace L2.HW
open PySem PySem.Spec PyProof.Rows L2.HW.G
end L2.HW
namespace L2.HW
open PySem L2.HW.G
end L2.HW
namespace L2.HW
open PySem PySem.Spec PyProof.Rows L2.HW.G
end L2.HW
namespace L2.HW
open PySem PySem.Spec PyProof.Rows L2.HW.G
end L2.HW
namespace L2.HW
open PySem PySem.Spec PyProof.Rows
structure SameL (A B : Wb) : Prop where
  m : A.m = B.m
  b : A.b = B.b
  e : A.e = B.e
  rs : ∀ i : Nat, (A.rs[i]?).map (fun r => (r.u, r.v, r.l)) = (B.rs[i]?).map (fun r => (r.u, r.v, r.l))
theorem SameL.symm {A B : Wb} (s : SameL A B) : SameL B A := ⟨s.m.symm, s.b.symm, s.e.symm, fun i => (s.rs i).symm⟩
theorem SameL.at {A B : Wb} (s : SameL A B) {i : Nat} {r : Rd} (h : A.rs[i]? = some r) : ∃ q, B.rs[i]? = some q ∧ q.u = r.u ∧ q.v = r.v ∧ q.l = r.l := by
  have := s.rs i
  rw [h] at this
  cases e : B.rs[i]? with
  | none => rw [e] at this; cases this
  | some q =>
    rw [e] at this
    simp at this
    exact ⟨q, rfl, this.1.symm, this.2.1.symm, this.2.2.symm⟩
abbrev mx (c : Int → Int) (q : Rd) : Int := max 0 (c q.v - c q.u - q.l)
end L2.HW
namespace L2.HW
open PySem PySem.Spec PyProof.Rows
end L2.HW
namespace L2.HW
open PySem PySem.Spec PyProof.Rows
def others (W : Wb) (k : Nat) : Int := ((W.rs.zipIdx.filter fun p => !decide (p.2 = k)).map fun p => p.1.w).sum
end L2.HW
namespace L2.HW
open PySem PySem.Spec PyProof.Rows
end L2.HW
namespace L2.HW
open PySem PySem.Spec PyProof.Rows
end L2.HW
namespace L2.HW
open PySem PySem.Spec PyProof.Rows
end L2.HW
namespace L2.HW
open PySem PySem.Spec PyProof.Rows
def Wb.two (W : Wb) (k : Nat) (r : Rd) : Wb := ⟨W.m + 1, W.b, W.e, W.rs.take k ++ [⟨r.u, W.m, 1, r.w⟩, ⟨W.m, r.v, r.l - 1, r.w⟩] ++ W.rs.drop (k + 1)⟩
end L2.HW
namespace L2.HW
open PySem PySem.Spec PyProof.Rows
end L2.HW
namespace L2.HW
open PySem PySem.Spec PyProof.Rows
end L2.HW
namespace L2.HW
open PySem PySem.Spec PyProof.Rows
end L2.HW
namespace L2.HW
open PySem PySem.Spec PyProof.Rows L2.HW.G
end L2.HW
namespace L2.HW
open PySem PySem.Spec PyProof.Rows L2.HW.G
end L2.HW
namespace L2.HW
open PySem PySem.Spec PyProof.Rows
end L2.HW
namespace L2.HW
open PySem PySem.Spec PyProof.Rows
end L2.HW
namespace L2.HW
open PySem PySem.Spec PyProof.Rows
end L2.HW
namespace L2.HW
open PySem PySem.Spec PyProof.Rows
end L2.HW
namespace L2.HW
open PySem PySem.Spec PyProof.Rows
abbrev ORow := Int × Option Int
def cl (x : Row) : ORow := (x.1, some x.2)
end L2.HW
namespace L2.HW
open PySem PySem.Spec PyProof.Rows
end L2.HW
namespace L2.HW
open PySem PySem.Spec PyProof.Rows
end L2.HW
namespace L2.HW
open PySem PySem.Spec PyProof.Rows
end L2.HW
namespace L2.HW
open PySem PySem.Spec PyProof.Rows
structure Sh45 where
  m : Int
  b : Int
  e : Int
  ps : List Pr
def Sh45.ok (x : Sh45) : Prop := ∃ top cnt, GoodS top cnt x.m x.b x.e x.ps ∧ top ≤ 70 ∧ cnt ≤ 9 ∧ (x.ps.length + 1) ^ x.m.toNat ≤ 16000000
end L2.HW
namespace L2.HW
open PySem PySem.Spec PyProof.Rows
end L2.HW
namespace L2.HW
open PySem PySem.Spec PyProof.Rows
end L2.HW
namespace L2.HW
open PySem PySem.Spec PyProof.Rows
end L2.HW
namespace L2.HW
open PySem PySem.Spec PyProof.Rows L2.HW.G
end L2.HW
namespace L2.HW
open PySem PySem.Spec PyProof.Rows L2.HW.G
end L2.HW
namespace L2.HW
open PySem PySem.Spec PyProof.Rows
end L2.HW
namespace L2.HW
open PySem PySem.Spec PyProof.Rows L2.HW.G
end L2.HW
namespace L2.HW
open PySem PySem.Spec PyProof.Rows L2.HW.G
end L2.HW
namespace L2.HW
open PySem PySem.Spec PyProof.Rows L2.HW.G
end L2.HW
namespace L2.HW
open PySem PySem.Spec PyProof.Rows L2.HW.G
end L2.HW
namespace L2.HW
open PySem PySem.Spec PyProof.Rows L2.HW.G
end L2.HW
namespace L2.HW
open PySem PySem.Spec PyProof.Rows L2.HW.G
end L2.HW
namespace L2.HW
open PySem PySem.Spec PyProof.Rows L2.HW.G
end L2.HW
namespace L2.HW
open PySem PySem.Spec PyProof.Rows L2.HW.G
end L2.HW
namespace L2.HW
open PySem PySem.Spec PyProof.Rows L2.HW.G
end L2.HW
namespace L2.HW
open PySem PySem.Spec PyProof.Rows L2.HW.G
end L2.HW
namespace L2.HW
open PySem PySem.Spec PyProof.Rows L2.HW.G
theorem GoodS.more {t c m b e : Int} {ps : List Pr} (g : GoodS t c m b e ps) : GoodS (t + 1) (c + 1) (m + 1) b e (ps ++ [(b, m)]) := by
  have h1 := g.m2; have h2 := g.mt; have h3 := g.b0; have h4 := g.b1; have h5 := g.e0; have h6 := g.e1; have h7 := g.be; have h8 := g.len
  refine ⟨by omega, by omega, h3, by omega, h5, by omega, h7, fun p hp => ?_, by simp; omega, ?_⟩
  · rcases List.mem_append.mp hp with hp | hp
    · obtain ⟨k1, k2, k3, k4, k5⟩ := g.rd p hp
      exact ⟨k1, by omega, k3, by omega, k5⟩
    · have : p = (b, m) := by simpa using hp
      subst this
      exact ⟨h3, by show b < m + 1; omega, by show 0 ≤ m; omega, by show m < m + 1; omega, h7⟩
  · obtain ⟨r, hr⟩ := g.acy
    refine ⟨fun x => if x = m then r b + 1 else r x, fun p hp => ?_⟩
    rcases List.mem_append.mp hp with hp | hp
    · obtain ⟨k1, k2, k3, k4, k5⟩ := g.rd p hp
      have := hr p hp
      show (if p.1 = m then r b + 1 else r p.1) < (if p.2 = m then r b + 1 else r p.2)
      rw [if_neg (by omega), if_neg (by omega)]
      exact this
    · have : p = (b, m) := by simpa using hp
      subst this
      show (if b = m then r b + 1 else r b) < (if m = m then r b + 1 else r m)
      rw [if_neg (by omega), if_pos rfl]
      omega
end L2.HW
namespace L2.HW
open PySem PySem.Spec PyProof.Rows L2.HW.G
end L2.HW
namespace L2.HW
open PySem PySem.Spec PyProof.Rows L2.HW.G
end L2.HW
namespace L2.HW
open PySem PySem.Spec PyProof.Rows L2.HW.G
abbrev t0 : Tr := .nd true [.nd false [.rd 0, .rd 1], .rd 2]
end L2.HW
namespace L2.HW
open PySem PySem.Spec PyProof.Rows L2.HW.G
end L2.HW
namespace L2.HW
open PySem PySem.Spec PyProof.Rows
end L2.HW
namespace L2.HW
open PySem PySem.Spec PyProof.Rows
@[simp] theorem getK (L g : LH) (k : Nat) : (L ++ g)[L.length + k]? = g[k]? := by rw [List.getElem?_append_right (by omega)]; simp
@[simp] theorem setK (L g : LH) (k : Nat) (o : Option Ob) : (L ++ g).set (L.length + k) o = L ++ g.set k o := by rw [List.set_append_right _ _ (by omega)]; simp
def badS (x : PyData) : Prop := fine x = true ∧ x.depth ≤ 6 ∧ x.bulk ≤ 100 ∧ shapeB x = false
instance (x : PyData) : Decidable (badS x) := by unfold badS; infer_instance
end L2.HW
namespace L2.HW
open PySem PySem.Spec PyProof.Rows L2.HW.G
end L2.HW
namespace L2.HW
open PySem PySem.Spec PyProof.Rows L2.HW.G
end L2.HW
namespace L2.HW
open PySem PySem.Spec PyProof.Rows L2.HW.G PySem.NumText
abbrev figS : Str := "0123456789"
def digB (c : Nat) : Bool := decide (c ∈ figS.cps.toList)
end L2.HW
namespace L2.HW
open PySem PySem.Spec PyProof.Rows L2.HW.G PySem.NumText TL
end L2.HW
namespace L2.HW
open PySem PySem.Spec PyProof.Rows L2.HW.G PySem.NumText TL
end L2.HW
namespace L2.HW
open PySem PySem.Spec PyProof.Rows L2.HW.G PySem.NumText TL
theorem cut_from {α : Type} (xs : List α) (i : Nat) : cutA xs (some (i : Int)) none = xs.drop i := by
  unfold cutA
  rw [HT.sIx_nat, HT.sIx_none]
  by_cases h : i ≤ xs.length
  · rw [Nat.min_eq_left h, List.take_of_length_le (by rw [List.length_drop]; omega)]
  · rw [List.drop_eq_nil_of_le (by omega : xs.length ≤ min i xs.length), List.drop_eq_nil_of_le (by omega : xs.length ≤ i)]
    simp
theorem cut_to {α : Type} (xs : List α) (i : Nat) : cutA xs none (some (i : Int)) = xs.take i := by
  unfold cutA
  rw [HT.sIx_nat, HT.sIx_none, Nat.sub_zero, List.drop_zero]
  by_cases h : i ≤ xs.length
  · rw [Nat.min_eq_left h]
  · rw [Nat.min_eq_right (by omega), List.take_of_length_le (Nat.le_refl _), List.take_of_length_le (by omega)]
theorem sl_from {f : EF} {xs : List PyData} {env : En} {L : LH} (i : Nat) (h : f env L = .ok (.d (.list xs)) L) : eSl f (pSome (eC (.int (i : Int)))) pNone env L = .ok (.d (.list (xs.drop i))) L := by
  have c : cutA (xs.map Va.d) (some (i : Int)) none = (xs.drop i).map Va.d := by rw [cut_from, List.map_drop]
  have d : datas ((xs.drop i).map Va.d) = some (xs.drop i) := datas_map _
  have so : pSome (eC (.int (i : Int))) env L = .ok (some (i : Int)) L := by simp
  have sn : pNone env L = .ok none L := by simp
  have op : opSl (.d (.list xs)) (some (i : Int)) none L = .ok (.d (.list (xs.drop i))) L := by
    show (match datas (cutA (xs.map Va.d) (some (i : Int)) none) with
      | some ys => Res.ok (Va.d (.list ys)) L
      | none => .stuck) = _
    rw [c, d]
  unfold eSl
  rw [h]
  simp only [Res.bind_ok, so, sn, op]
theorem sl_to {f : EF} {xs : List PyData} {env : En} {L : LH} (i : Nat) {g : EF} (h : f env L = .ok (.d (.list xs)) L) (hg : g env L = .ok (.d (.int (i : Int))) L) : eSl f pNone (pSome g) env L = .ok (.d (.list (xs.take i))) L := by
  have c : cutA (xs.map Va.d) none (some (i : Int)) = (xs.take i).map Va.d := by rw [cut_to, List.map_take]
  have d : datas ((xs.take i).map Va.d) = some (xs.take i) := datas_map _
  have so : pSome g env L = .ok (some (i : Int)) L := by simp [hg]
  have sn : pNone env L = .ok none L := by simp
  have op : opSl (.d (.list xs)) none (some (i : Int)) L = .ok (.d (.list (xs.take i))) L := by
    show (match datas (cutA (xs.map Va.d) none (some (i : Int))) with
      | some ys => Res.ok (Va.d (.list ys)) L
      | none => .stuck) = _
    rw [c, d]
  unfold eSl
  rw [h]
  simp only [Res.bind_ok, so, sn, op]
end L2.HW
namespace L2.HW
open PySem PySem.Spec PyProof.Rows L2.HW.G PySem.NumText TL
end L2.HW
namespace L2.HW
open PySem PySem.Spec PyProof.Rows L2.HW.G PySem.NumText TL
end L2.HW
namespace L2.HW
open PySem PySem.Spec PyProof.Rows L2.HW.G PySem.NumText TL
end L2.HW
namespace L2.HW
open PySem PySem.Spec PyProof.Rows L2.HW.G PySem.NumText TL
end L2.HW
namespace L2.HW
open PySem PySem.Spec PyProof.Rows L2.HW.G PySem.NumText TL
end L2.HW
namespace L2.HW
open PySem PySem.Spec PyProof.Rows L2.HW.G PySem.NumText TL
end L2.HW
namespace L2.HW
open PySem PySem.Spec PyProof.Rows L2.HW.G PySem.NumText TL
end L2.HW
namespace L2.HW
open PySem PySem.Spec PyProof.Rows L2.HW.G PySem.NumText TL
end L2.HW
namespace L2.HW
open PySem PySem.Spec PyProof.Rows L2.HW.G PySem.NumText TL
end L2.HW
namespace L2.HW
open PySem PySem.Spec PyProof.Rows L2.HW.G PySem.NumText TL
end L2.HW
namespace L2.HW
open PySem PySem.Spec PyProof.Rows L2.HW.G PySem.NumText TL
end L2.HW
namespace L2.HW
open PySem PySem.Spec PyProof.Rows L2.HW.G
def SmD (x : PyData) : Prop := cmpOk x x = true ∧ PyData.eqv x x = true
theorem ne_same {f g : EF} {x : PyData} {env : En} {L : LH} (hf : f env L = .ok (.d x) L) (hg : g env L = .ok (.d x) L) (h : SmD x) : tVal (eOp opNe f g) env L = .ok false L := by
  rw [u_tVal, u_eOp, hf]
  simp only [Res.bind_ok, hg, u_opNe, data_d, h.1, if_true, h.2, Bool.not_true]
theorem eq_same {f g : EF} {x : PyData} {env : En} {L : LH} (hf : f env L = .ok (.d x) L) (hg : g env L = .ok (.d x) L) (h : SmD x) : eOp opEq f g env L = .ok (.d (.bool true)) L := by
  rw [u_eOp, hf]
  simp only [Res.bind_ok, hg, u_opEq, data_d, h.1, if_true, h.2]
theorem k1 {F : Fn} {i : Nat} {w : Va} {x : PyData} {env : En} {L : LH} (hi : env[i]? = some (some w)) (h : F [w] L = .ok (.d x) L) : eCallK F 1 [0] (aCons (eVar i) aNil) env L = .ok (.d x) L ∧ eCall F (aCons (eVar i) aNil) env L = .ok (.d x) L := by
  have ev : eVar i env L = .ok w L := by simp [eVar, hi]
  constructor
  · rw [u_eCallK, u_aCons, ev]
    simp [pickL, h]
  · rw [u_eCall, u_aCons, ev]
    simp [h]
theorem k2 {F : Fn} {f g : EF} {w u : Va} {x : PyData} {env : En} {L : LH} (hf : f env L = .ok w L) (hg : g env L = .ok u L) (h : F [w, u] L = .ok (.d x) L) : eCallK F 2 [1, 0] (aCons g (aCons f aNil)) env L = .ok (.d x) L ∧ eCall F (aCons f (aCons g aNil)) env L = .ok (.d x) L := by
  constructor
  · rw [u_eCallK, u_aCons, hg]
    simp [pickL, hf, h]
  · rw [u_eCall, u_aCons, hf]
    simp [hg, h]
end L2.HW
namespace L2.HW
open PySem PySem.Spec PyProof.Rows L2.HW.G PySem.NumText TL
theorem smD_str (s : Str) : SmD (.str s) := ⟨str_ok _ _, str_same _⟩
end L2.HW
namespace L2.HW
open PySem PySem.Spec PyProof.Rows L2.HW.G PySem.NumText TL
end L2.HW
namespace L2.HW
open PySem PySem.Spec PyProof.Rows L2.HW.G PySem.NumText TL
def ofL (l : List Nat) : Str := ⟨l.toArray⟩
structure TS where
  lv : List (Str × List PyData)
  wd : List Nat
  rd : Option PyData
def headD (l : List Nat) : Bool := match l with
  | [] => false
  | c :: _ => digB c
end L2.HW
namespace L2.HW
open PySem PySem.Spec PyProof.Rows L2.HW.G PySem.NumText TL
def rdD : Option PyData → PyData
  | some x => x
  | none => .none
abbrev spF (a : Nat) (w : List Nat) (r : Option PyData) : List (Str × Va) := [("around", .loc a), ("word", .d (.str (ofL w))), ("read", .d (rdD r))]
abbrev spO (a : Nat) (w : List Nat) (r : Option PyData) : Option Ob := some (.ins "Spelling" (spF a w r))
theorem fld_ev {c x : Str} {f : EF} {env : En} {L M : LH} {n : Nat} {fs : List (Str × Va)} {u : Va} (h : f env L = .ok (.loc n) M) (hL : M[n]? = some (some (.ins c fs))) (hx : fs.lookup x = some u) : eFld c x f env L = .ok u M := by
  rw [u_eFld, h]
  simp only [Res.bind_ok, hL, hx, if_true]
theorem fldS_ev {c x : Str} {fo fv : EF} {env : En} {L M : LH} {n : Nat} {fs : List (Str × Va)} {u : Va} (hv : fv env L = .ok u M) (h : fo env M = .ok (.loc n) M) (hL : M[n]? = some (some (.ins c fs))) (hz : fs.length < 1000) : sFldS c x fo fv env L = .nx env (M.set n (some (.ins c (putA x u fs)))) := by
  rw [u_sFldS, hv]
  simp only [then_ok, h, hL]
  rw [if_pos ⟨trivial, hz⟩]
theorem fnC_rt {np nl : Nat} {b : SFn} {ws : List Va} {L L' : LH} {w : Va} (hl : ws.length = np) (h : b (ws.map some ++ List.replicate (nl - ws.length) none) L = .rt w L') : mkFnC np nl b ws L = .ok w L' := by
  unfold mkFnC
  rw [if_pos hl, h]
end L2.HW
namespace L2.HW
open PySem PySem.Spec PyProof.Rows L2.HW.G PySem.NumText TL
def arV : List (Str × List PyData) → List Nat → List Va
  | (nm, _) :: lv, k :: ks => .tup [.d (.str nm), .loc k] :: arV lv ks
  | _, _ => []
def celOk (L : LH) : List (Str × List PyData) → List Nat → Prop
  | [], [] => True
  | (_, ts) :: lv, k :: ks => L[k]? = some (some (.lst (ts.map Va.d))) ∧ celOk L lv ks
  | _, _ => False
theorem celOk.len {L : LH} : ∀ {lv : List (Str × List PyData)} {ks : List Nat}, celOk L lv ks → ks.length = lv.length
  | [], [], _ => rfl
  | _ :: _, _ :: _, ⟨_, h⟩ => by rw [List.length_cons, List.length_cons, celOk.len h]
  | [], _ :: _, h => h.elim
  | _ :: _, [], h => h.elim
theorem arV_app : ∀ {lv : List (Str × List PyData)} {ks : List Nat} (nm : Str) (ts : List PyData) (k : Nat), ks.length = lv.length → arV (lv ++ [(nm, ts)]) (ks ++ [k]) = arV lv ks ++ [.tup [.d (.str nm), .loc k]]
  | [], [], _, _, _, _ => rfl
  | (_, _) :: lv, _ :: ks, nm, ts, k, h => by
    have := arV_app (lv := lv) (ks := ks) nm ts k (by simpa using h)
    simp [arV, this]
  | [], _ :: _, _, _, _, h => by cases h
  | _ :: _, [], _, _, _, h => by cases h
theorem celOk_app {L : LH} : ∀ {lv : List (Str × List PyData)} {ks : List Nat} (nm : Str) (ts : List PyData) (k : Nat), ks.length = lv.length → (celOk L (lv ++ [(nm, ts)]) (ks ++ [k]) ↔ celOk L lv ks ∧ L[k]? = some (some (.lst (ts.map Va.d))))
  | [], [], _, _, _, _ => by simp [celOk]
  | (_, _) :: lv, _ :: ks, nm, ts, k, h => by
    have := celOk_app (L := L) (lv := lv) (ks := ks) nm ts k (by simpa using h)
    simp [celOk, this, and_assoc]
  | [], _ :: _, _, _, _, h => by cases h
  | _ :: _, [], _, _, _, h => by cases h
theorem celOk.mono {L M : LH} : ∀ {lv : List (Str × List PyData)} {ks : List Nat}, celOk L lv ks → (∀ k ∈ ks, M[k]? = L[k]?) → celOk M lv ks
  | [], [], _, _ => trivial
  | (_, _) :: lv, k :: ks, ⟨h1, h2⟩, e => ⟨by rw [e k List.mem_cons_self]; exact h1, celOk.mono h2 fun k' h' => e k' (List.mem_cons_of_mem _ h')⟩
  | [], _ :: _, h, _ => h.elim
  | _ :: _, [], h, _ => h.elim
structure SpR (L0 L : LH) (n a : Nat) (ks : List Nat) (s : TS) : Prop where
  ins : L[n]? = some (spO a s.wd s.rd)
  arr : L[a]? = some (some (.lst (arV s.lv ks)))
  cel : celOk L s.lv ks
  na : n ≠ a
  nk : ∀ k ∈ ks, k ≠ n ∧ k ≠ a ∧ L0.length ≤ k
  nd : ks.Nodup
  n0 : L0.length ≤ n
  a0 : L0.length ≤ a
  fr : ∀ i, i < L0.length → L[i]? = L0[i]?
theorem get_lt {L : LH} {k : Nat} {o : Option Ob} (h : L[k]? = some o) : k < L.length := (List.getElem?_eq_some_iff.mp h).1
theorem SpR.put {L0 L : LH} {n a : Nat} {ks : List Nat} {s : TS} (h : SpR L0 L n a ks s) (w : List Nat) (r : Option PyData) : SpR L0 (L.set n (spO a w r)) n a ks ⟨s.lv, w, r⟩ := by
  have ln := get_lt h.ins
  refine ⟨by rw [List.getElem?_set_self ln], by rw [List.getElem?_set_ne h.na]; exact h.arr, h.cel.mono fun k hk => ?_, h.na, h.nk, h.nd, h.n0, h.a0, fun i hi => ?_⟩
  · rw [List.getElem?_set_ne (h.nk k hk).1.symm]
  · rw [List.getElem?_set_ne (by have := h.n0; omega)]
    exact h.fr i hi
end L2.HW
namespace L2.HW
open PySem PySem.Spec PyProof.Rows L2.HW.G PySem.NumText TL
end L2.HW
namespace L2.HW
open PySem PySem.Spec PyProof.Rows L2.HW.G PySem.NumText TL
section
variable {L0 L : LH} {n a k : Nat} {ks0 ks : List Nat} {lv0 : List (Str × List PyData)} {nm : Str} {ts us : List PyData} {w : List Nat} {r : Option PyData} {s : TS}
theorem SpR.cell (h : SpR L0 L n a (ks0 ++ [k]) ⟨lv0 ++ [(nm, ts)], w, r⟩) (hl : ks0.length = lv0.length) : SpR L0 (L.set k (some (.lst (us.map Va.d)))) n a (ks0 ++ [k]) ⟨lv0 ++ [(nm, us)], w, r⟩ := by
  obtain ⟨c1, c2⟩ := (celOk_app nm ts k hl).mp h.cel
  obtain ⟨k1, k2, k3⟩ := h.nk k (List.mem_append_right _ List.mem_cons_self)
  have lk := get_lt c2
  refine ⟨by rw [List.getElem?_set_ne k1]; exact h.ins, ?_, (celOk_app nm us k hl).mpr ⟨c1.mono fun k' hk' => ?_, by rw [List.getElem?_set_self lk]⟩, h.na, h.nk, h.nd, h.n0, h.a0, fun i hi => ?_⟩
  · rw [List.getElem?_set_ne k2, h.arr]
    show some (some (Ob.lst (arV (lv0 ++ [(nm, ts)]) (ks0 ++ [k])))) = some (some (.lst (arV (lv0 ++ [(nm, us)]) (ks0 ++ [k]))))
    rw [arV_app _ _ _ hl, arV_app _ _ _ hl]
  · have : k' ≠ k := fun z => by
      subst z
      exact (List.nodup_append.mp h.nd).2.2 k' hk' k' List.mem_cons_self rfl
    rw [List.getElem?_set_ne this.symm]
  · rw [List.getElem?_set_ne (by omega)]
    exact h.fr i hi
theorem SpR.pop (h : SpR L0 L n a (ks0 ++ [k]) ⟨lv0 ++ [(nm, ts)], w, r⟩) (hl : ks0.length = lv0.length) : SpR L0 (L.set a (some (.lst (arV lv0 ks0)))) n a ks0 ⟨lv0, w, r⟩ := by
  obtain ⟨c1, c2⟩ := (celOk_app nm ts k hl).mp h.cel
  have la := get_lt h.arr
  refine ⟨by rw [List.getElem?_set_ne h.na.symm]; exact h.ins, by rw [List.getElem?_set_self la], c1.mono fun k' hk' => ?_, h.na, fun k' hk' => h.nk k' (List.mem_append_left _ hk'), (List.nodup_append.mp h.nd).1, h.n0, h.a0, fun i hi => ?_⟩
  · rw [List.getElem?_set_ne (h.nk k' (List.mem_append_left _ hk')).2.1.symm]
  · rw [List.getElem?_set_ne (by have := h.a0; omega)]
    exact h.fr i hi
end
end L2.HW
namespace L2.HW
open PySem PySem.Spec PyProof.Rows L2.HW.G PySem.NumText TL
theorem kept_fr {L L' : LH} (h : ∀ i, i < L.length → L'[i]? = L[i]?) : Kept L L' ∧ L'.take L.length = L := by
  refine ⟨fun n hn => .inl (h n hn), ?_⟩
  refine List.ext_getElem? fun i => ?_
  by_cases hi : i < L.length
  · rw [List.getElem?_take_of_lt hi, h i hi]
  · rw [List.getElem?_eq_none (l := L) (by omega), List.getElem?_eq_none (by rw [List.length_take]; omega)]
end L2.HW
namespace L2.HW
open PySem PySem.Spec PyProof.Rows L2.HW.G PySem.NumText TL
theorem fnC_nx {np nl : Nat} {b : SFn} {ws : List Va} {L L' : LH} {env' : En} (hl : ws.length = np) (h : b (ws.map some ++ List.replicate (nl - ws.length) none) L = .nx env' L') : mkFnC np nl b ws L = .ok (.d .none) L' := by
  unfold mkFnC
  rw [if_pos hl, h]
end L2.HW
namespace L2.HW
open PySem PySem.Spec PyProof.Rows L2.HW.G PySem.NumText TL
end L2.HW
namespace L2.HW
open PySem PySem.Spec PyProof.Rows L2.HW.G PySem.NumText TL
end L2.HW
namespace L2.HW
open PySem PySem.Spec PyProof.Rows L2.HW.G PySem.NumText TL
end L2.HW
namespace L2.HW
open PySem PySem.Spec PyProof.Rows L2.HW.G PySem.NumText TL
end L2.HW
namespace L2.HW
open PySem PySem.Spec PyProof.Rows L2.HW.G PySem.NumText TL
end L2.HW
namespace L2.HW
open PySem PySem.Spec PyProof.Rows L2.HW.G PySem.NumText TL
end L2.HW
namespace L2.HW
open PySem PySem.Spec PyProof.Rows L2.HW.G PySem.NumText TL
end L2.HW
namespace L2.HW
open PySem PySem.Spec PyProof.Rows L2.HW.G PySem.NumText TL
end L2.HW
namespace L2.HW
open PySem PySem.Spec PyProof.Rows L2.HW.G PySem.NumText TL
end L2.HW
namespace L2.HW
open PySem PySem.Spec PyProof.Rows L2.HW.G PySem.NumText TL
end L2.HW
namespace L2.HW
open PySem PySem.Spec PyProof.Rows L2.HW.G
end L2.HW
namespace L2.HW
open PySem PySem.Spec PyProof.Rows L2.HW.G
theorem Gn.one {m : Int} {es : List Pr} (g : Gn m es) : ∃ d, redS es 0 1 = [d] := by
  have be : (0 : Int) ≠ 1 := by decide
  have h1 := (red_one be g.gr.acy).mpr ⟨(cnt_rch be).mpr g.rc, g.nc⟩
  exact List.length_eq_one_iff.mp h1
end L2.HW
namespace L2.HW
open PySem PySem.Spec PyProof.Rows L2.HW.G
theorem al_nil {env : En} {L : LH} : aNil env L = .ok (([] : List PyData).map Va.d) L := by rw [u_aNil]; rfl
theorem al_cons {f : EF} {fs : En → LH → Res (List Va)} {x : PyData} {xs : List PyData} {env : En} {L : LH} (h : f env L = .ok (.d x) L) (hs : fs env L = .ok (xs.map Va.d) L) : aCons f fs env L = .ok ((x :: xs).map Va.d) L := by
  rw [u_aCons, h]
  simp only [Res.bind_ok, hs, List.map_cons]
abbrev dn (xs : List PyData) : PyData := .tuple [.str "behind", .tuple xs]
abbrev ds (xs : List PyData) : PyData := .tuple [.str "beside", .tuple xs]
abbrev wPr : Wb := ⟨3, 0, 2, [⟨0, 1, 1, 1⟩, ⟨1, 2, 1, 1⟩]⟩
def ro2 : List (Wb × PyData) := [(wPr, ds [.int 0, .int 1]), (wPr, dn [.int 1, .int 0]), (wPr, dn [.int 0, .bool true])]
end L2.HW
namespace L2.HW
open PySem PySem.Spec PyProof.Rows L2.HW.G PySem.NumText TL
end L2.HW
namespace L2.HW
open PySem PySem.Spec PyProof.Rows L2.HW.G PySem.NumText TL
end L2.HW
namespace L2.HW
open PySem PySem.Spec PyProof.Rows L2.HW.G PySem.NumText TL
abbrev rsD (rs : List Rd) : PyData := .list (rs.map Rd.d)
abbrev stF (W : Wb) (p : Nat) : List (Str × Va) := [("many", .d (.int W.m)), ("begin", .d (.int W.b)), ("end", .d (.int W.e)), ("roads", .d (rsD W.rs)), ("past", .loc p)]
abbrev stO (W : Wb) (p : Nat) : Option Ob := some (.ins "Site" (stF W p))
abbrev psO (ps : List (List Rd)) : Option Ob := some (.lst (ps.map fun rs => .d (rsD rs)))
def SAt (n p : Nat) (W : Wb) (ps : List (List Rd)) (L : LH) : Prop := L[n]? = some (stO W p) ∧ L[p]? = some (psO ps) ∧ n ≠ p
def sSt (n p : Nat) (W : Wb) (ps : List (List Rd)) (L : LH) : LH := (L.set n (stO W p)).set p (psO ps)
abbrev Wb.put (W : Wb) (rs : List Rd) : Wb := { W with rs := rs }
theorem sSt_len {n p : Nat} {W : Wb} {ps : List (List Rd)} {L : LH} : (sSt n p W ps L).length = L.length := by simp [sSt]
theorem sat_st {n p : Nat} {L : LH} (W : Wb) (ps : List (List Rd)) (hn : n < L.length) (hp : p < L.length) (ne : n ≠ p) : SAt n p W ps (sSt n p W ps L) := by
  refine ⟨?_, ?_, ne⟩
  · unfold sSt
    rw [List.getElem?_set_ne (Ne.symm ne), List.getElem?_set_self hn]
  · unfold sSt
    rw [List.getElem?_set_self (by rw [List.length_set]; exact hp)]
theorem SAt.ln {n p : Nat} {W : Wb} {ps : List (List Rd)} {L : LH} (h : SAt n p W ps L) : n < L.length := get_lt h.1
theorem SAt.lp {n p : Nat} {W : Wb} {ps : List (List Rd)} {L : LH} (h : SAt n p W ps L) : p < L.length := get_lt h.2.1
theorem SAt.st {n p : Nat} {W : Wb} {ps : List (List Rd)} {L : LH} (h : SAt n p W ps L) (W2 : Wb) (ps2 : List (List Rd)) : SAt n p W2 ps2 (sSt n p W2 ps2 L) := sat_st W2 ps2 h.ln h.lp h.2.2
theorem set_back {α : Type} : ∀ {L : List α} {i : Nat} {x : α}, L[i]? = some x → L.set i x = L
  | [], _, _, h => by simp at h
  | a :: l, 0, x, h => by simp at h; simp [h]
  | a :: l, i + 1, x, h => by
    simp only [List.getElem?_cons_succ] at h
    simp only [List.set_cons_succ, set_back h]
theorem al_star {f : EF} {fs : En → LH → Res (List Va)} {xs ys : List PyData} {env : En} {L : LH} (h : f env L = .ok (.d (.list xs)) L) (hs : fs env L = .ok (ys.map Va.d) L) : aStar f fs env L = .ok ((xs ++ ys).map Va.d) L := by
  rw [u_aStar, h]
  simp only [Res.bind_ok, Va.seq, hs, List.map_append]
theorem al_starT {f : EF} {fs : En → LH → Res (List Va)} {xs ys : List PyData} {env : En} {L : LH} (h : f env L = .ok (.d (.tuple xs)) L) (hs : fs env L = .ok (ys.map Va.d) L) : aStar f fs env L = .ok ((xs ++ ys).map Va.d) L := by
  rw [u_aStar, h]
  simp only [Res.bind_ok, Va.seq, hs, List.map_append]
theorem tup_al {fs : En → LH → Res (List Va)} {xs : List PyData} {env : En} {L : LH} (h : fs env L = .ok (xs.map Va.d) L) (hz : xs.length ≤ 16000000) : eTup fs env L = .ok (.d (.tuple xs)) L := by
  have zs := sizeLine_eq
  rw [u_eTup, h]
  simp only [Res.bind_ok]
  rw [if_pos (by rw [List.length_map]; omega), mkTup_map]
theorem lst_al {fs : En → LH → Res (List Va)} {xs : List PyData} {env : En} {L : LH} (h : fs env L = .ok (xs.map Va.d) L) (hz : xs.length ≤ 16000000) : eDat (fLst fs) env L = .ok (.d (.list xs)) L := by
  have zs := sizeLine_eq
  rw [u_eDat, u_fLst, h]
  simp only [Res.bind_ok]
  rw [if_pos (by rw [List.length_map]; omega)]
  simp only [Res.bind_ok, va_lst]
theorem add_ll {f g : EF} {xs ys : List PyData} {env : En} {L : LH} (h : f env L = .ok (.d (.list xs)) L) (hg : g env L = .ok (.d (.list ys)) L) (hz : xs.length + ys.length ≤ 16000000) : eOp opAdd f g env L = .ok (.d (.list (xs ++ ys))) L := by
  have zs := sizeLine_eq
  rw [u_eOp, h]
  simp only [Res.bind_ok, hg]
  show opAdd _ _ _ = _
  rw [u_opAdd]
  simp only [Va.items]
  rw [if_pos (by rw [List.length_map, List.length_map]; omega)]
  simp only [datas_map]
theorem sl_fromG {f g : EF} {xs : List PyData} {env : En} {L : LH} (i : Nat) (h : f env L = .ok (.d (.list xs)) L) (hg : g env L = .ok (.d (.int (i : Int))) L) : eSl f (pSome g) pNone env L = .ok (.d (.list (xs.drop i))) L := by
  have k := sl_from (env := env) (L := L) i h
  have so : pSome g env L = pSome (eC (.int (i : Int))) env L := by simp [hg]
  rw [u_eSl, h] at k ⊢
  simp only [Res.bind_ok] at k ⊢
  rw [so]
  exact k
theorem fnC_exc {np nl : Nat} {b : SFn} {ws : List Va} {L L' : LH} {env' : En} {c : Str} {f : Option PyData} (hl : ws.length = np) (h : b (ws.map some ++ List.replicate (nl - ws.length) none) L = .exc c f env' L') : mkFnC np nl b ws L = .exc c f L' := by
  unfold mkFnC
  rw [if_pos hl, h]
section
variable {n p : Nat} {W : Wb} {ps : List (List Rd)} {L : LH} {env : En} {f : EF}
theorem ev_many (hf : f env L = .ok (.loc n) L) (h : SAt n p W ps L) : eFld "Site" "many" f env L = .ok (.d (.int W.m)) L := fld_ev hf h.1 rfl
theorem ev_begin (hf : f env L = .ok (.loc n) L) (h : SAt n p W ps L) : eFld "Site" "begin" f env L = .ok (.d (.int W.b)) L := fld_ev hf h.1 rfl
theorem ev_end (hf : f env L = .ok (.loc n) L) (h : SAt n p W ps L) : eFld "Site" "end" f env L = .ok (.d (.int W.e)) L := fld_ev hf h.1 rfl
theorem ev_roads (hf : f env L = .ok (.loc n) L) (h : SAt n p W ps L) : eFld "Site" "roads" f env L = .ok (.d (rsD W.rs)) L := fld_ev hf h.1 rfl
theorem ev_past (hf : f env L = .ok (.loc n) L) (h : SAt n p W ps L) : eFld "Site" "past" f env L = .ok (.loc p) L := fld_ev hf h.1 rfl
theorem ev_v {i : Nat} {w : Va} (h : env[i]? = some (some w)) : eVar i env L = .ok w L := by rw [u_eVar, h]
theorem ev_tupL {L : LH} (h : f env L = .ok (.d (rsD W.rs)) L) : eCallB cTuple (aCons f aNil) env L = .ok (.d (.tuple (W.rs.map Rd.d))) L := by
  rw [u_eCallB, al_cons h al_nil]
  simp only [Res.bind_ok, List.map_cons, List.map_nil, u_cTuple, items_list, mkTup_map]
theorem site_web (h : SAt n p W ps L) : F_Site_web [.loc n] L = .ok (.d W.d) L := by
  have zs := sizeLine_eq
  refine fnC_rt rfl ?_
  show b_Site_web [some (.loc n)] L = _
  have v : eVar 0 [some (.loc n)] L = .ok (.loc n) L := ev_v rfl
  unfold b_Site_web
  rw [u_sRet, tup_al (al_cons (ev_many v h) (al_cons (ev_begin v h) (al_cons (ev_end v h) (al_cons (ev_tupL (ev_roads v h)) al_nil)))) (by simp)]
  rfl
theorem site_take {rs' : List Rd} (h : SAt n p W ps L) (hz : ps.length ≤ 1000) : F_Site_take [.loc n, .d (rsD rs')] L = .ok (.d .none) (sSt n p (W.put rs') (ps ++ [W.rs]) L) := by
  have zs := sizeLine_eq
  obtain ⟨hn, hp, ne⟩ := h
  have lp := get_lt hp
  have e1 : (sExpr (eMeth isLs mAppend (eFld "Site" "past" (eVar 0)) (aCons (eFld "Site" "roads" (eVar 0)) aNil))) [some (.loc n), some (.d (rsD rs'))] L = .nx [some (.loc n), some (.d (rsD rs'))] (L.set p (psO (ps ++ [W.rs]))) := by
    have v : eVar 0 [some (.loc n), some (.d (rsD rs'))] L = .ok (.loc n) L := ev_v rfl
    rw [u_sExpr, u_eMeth, ev_past v ⟨hn, hp, ne⟩]
    simp only [Res.bind_ok, isLs, hp, if_true, al_cons (ev_roads v ⟨hn, hp, ne⟩) al_nil, List.map_cons, List.map_nil, u_mAppend]
    rw [if_pos (by rw [List.length_map]; omega)]
    simp only [then_ok, psO, List.map_append, List.map_cons, List.map_nil]
  have e2 : (sFldS "Site" "roads" (eVar 0) (eVar 1)) [some (.loc n), some (.d (rsD rs'))] (L.set p (psO (ps ++ [W.rs]))) = .nx [some (.loc n), some (.d (rsD rs'))] ((L.set p (psO (ps ++ [W.rs]))).set n (stO (W.put rs') p)) :=
    fldS_ev (ev_v rfl) (ev_v rfl) (fs := stF W p) ((List.getElem?_set_ne (Ne.symm ne)).trans hn) (by show 5 < 1000; omega)
  have e3 : (L.set p (psO (ps ++ [W.rs]))).set n (stO (W.put rs') p) = sSt n p (W.put rs') (ps ++ [W.rs]) L := by
    unfold sSt
    rw [List.set_comm _ _ ne]
  rw [e3] at e2
  refine fnC_nx (env' := [some (.loc n), some (.d (rsD rs'))]) rfl ?_
  show b_Site_take [some (.loc n), some (.d (rsD rs'))] L = _
  exact seq_nx e1 e2
theorem look_new {x : PyData} (h : SAt n p W ps L) : F_Site_look_at_new [.loc n, .d x] L = if roadB W.m W.e x then .ok (.d .none) L else .exc "NotRoad" none L := by
  have v : eVar 0 [some (.loc n), some (.d x)] L = .ok (.loc n) L := ev_v rfl
  have b : b_Site_look_at_new [some (.loc n), some (.d x)] L = if roadB W.m W.e x then .nx [some (.loc n), some (.d x)] L else .exc "NotRoad" none [some (.loc n), some (.d x)] L := by
    unfold b_Site_look_at_new
    rw [u_sIf, u_tNotF, u_tVal, u_eCall, al_cons (ev_many v h) (al_cons (ev_end v h) (al_cons (x := x) (ev_v rfl) al_nil))]
    simp only [Res.bind_ok, List.map_cons, List.map_nil, F_is_road_eq]
    cases roadB W.m W.e x <;> simp
  cases e : roadB W.m W.e x with
  | true =>
    rw [e] at b
    exact fnC_nx (env' := [some (.loc n), some (.d x)]) rfl (b.trans (if_pos rfl))
  | false =>
    rw [e] at b
    exact fnC_exc (env' := [some (.loc n), some (.d x)]) rfl (b.trans (if_neg (by decide)))
theorem len_roads (hf : f env L = .ok (.loc n) L) (h : SAt n p W ps L) : eCallB cLen (aCons (eFld "Site" "roads" f) aNil) env L = .ok (.d (.int (W.rs.length : Int))) L := by
  rw [u_eCallB, al_cons (ev_roads hf h) al_nil]
  simp only [Res.bind_ok, List.map_cons, List.map_nil, u_cLen, Va.seq, List.length_map]
theorem look_place {x : PyData} (h : SAt n p W ps L) : F_Site_look_at_place [.loc n, .d x] L = if placeB (W.rs.length : Int) x then .ok (.d .none) L else .exc "NoRoad" none L := by
  have v : eVar 0 [some (.loc n), some (.d x)] L = .ok (.loc n) L := ev_v rfl
  have b : b_Site_look_at_place [some (.loc n), some (.d x)] L = if placeB (W.rs.length : Int) x then .nx [some (.loc n), some (.d x)] L else .exc "NoRoad" none [some (.loc n), some (.d x)] L := by
    unfold b_Site_look_at_place
    rw [u_sIf, u_tOrF, u_tNotF, u_tVal, u_eCall, al_cons (x := x) (ev_v rfl) al_nil]
    simp only [Res.bind_ok, List.map_cons, List.map_nil, F_is_whole_eq]
    cases x with
    | int i =>
      rw [u_tVal, u_eOp, ev_v (i := 1) rfl]
      simp only [Res.bind_ok, len_roads v h]
      by_cases h0 : 0 ≤ i
      · by_cases h1 : i < W.rs.length
        · have h2 : ¬ (W.rs.length : Int) ≤ i := by omega
          simp [wholeB, placeB, h0, h1, h2]
        · have h2 : (W.rs.length : Int) ≤ i := by omega
          simp [wholeB, placeB, h0, h1, h2]
      · simp [wholeB, placeB, h0]
    | none => simp [wholeB, placeB]
    | bool _ => simp [wholeB, placeB]
    | str _ => simp [wholeB, placeB]
    | tuple _ => simp [wholeB, placeB]
    | list _ => simp [wholeB, placeB]
    | dict _ => simp [wholeB, placeB]
  cases e : placeB (W.rs.length : Int) x with
  | true =>
    rw [e] at b
    exact fnC_nx (env' := [some (.loc n), some (.d x)]) rfl (b.trans (if_pos rfl))
  | false =>
    rw [e] at b
    exact fnC_exc (env' := [some (.loc n), some (.d x)]) rfl (b.trans (if_neg (by decide)))
theorem cm_ev {m : Str} {F : Fn} {fs : En → LH → Res (List Va)} {ws : List Va} {M M' : LH} (hf : f env L = .ok (.loc n) M) (h : SAt n p W ps M) (ha : fs env M = .ok ws M') (hm : (stF W p).lookup m = none := by rfl) : eCallM "Site" m F f fs env L = F (.loc n :: ws) M' := by
  rw [u_eCallM, hf]
  simp only [Res.bind_ok, h.1]
  rw [if_pos ⟨trivial, hm⟩, ha]
  rfl
theorem roadsP (rs : List Rd) (r : Rd) : rsD (rs ++ [r]) = .list (rs.map Rd.d ++ [r.d]) := by unfold rsD; rw [List.map_append]; rfl
theorem site_put {r : Rd} (h : SAt n p W ps L) (hz : ps.length ≤ 1000) (hw : W.rs.length ≤ 10000) (hr : roadB W.m W.e r.d = true) : F_Site_put [.loc n, .d (.int r.u), .d (.int r.v), .d (.int r.l), .d (.int r.w)] L = .ok (.d (.int (W.rs.length : Int))) (sSt n p (W.put (W.rs ++ [r])) (ps ++ [W.rs]) L) := by
  have zs := sizeLine_eq
  obtain ⟨E, hE⟩ : ∃ E : En, E = [some (.loc n), some (.d (.int r.u)), some (.d (.int r.v)), some (.d (.int r.l)), some (.d (.int r.w))] := ⟨_, rfl⟩
  have e0 : ∀ M, eVar 0 E M = .ok (.loc n) M := fun M => ev_v (by rw [hE]; rfl)
  have rd : ∀ M, eTup (aCons (eVar 1) (aCons (eVar 2) (aCons (eVar 3) (aCons (eVar 4) aNil)))) E M = .ok (.d r.d) M := fun M => by
    rw [hE]
    exact tup_al (al_cons (ev_v rfl) (al_cons (ev_v rfl) (al_cons (ev_v rfl) (al_cons (ev_v rfl) al_nil)))) (by simp)
  refine fnC_rt rfl ?_
  show b_Site_put [some (.loc n), some (.d (.int r.u)), some (.d (.int r.v)), some (.d (.int r.l)), some (.d (.int r.w))] L = _
  rw [← hE]
  refine seq_nx (env1 := E) (L1 := L) ?_ (seq_nx (env1 := E) (L1 := sSt n p (W.put (W.rs ++ [r])) (ps ++ [W.rs]) L) ?_ ?_)
  · rw [u_sExpr, cm_ev (e0 L) h (al_cons (rd L) al_nil)]
    simp only [List.map_cons, List.map_nil, look_new h, hr, if_true]
    rfl
  · rw [u_sExpr, cm_ev (e0 L) h (al_cons (lst_al (al_star (ev_roads (e0 L) h) (al_cons (rd L) al_nil)) (by simp; omega)) al_nil)]
    simp only [List.map_cons, List.map_nil]
    rw [← roadsP, site_take h hz]
    rfl
  · have h2 := h.st (W.put (W.rs ++ [r])) (ps ++ [W.rs])
    rw [u_sRet, u_eOp, len_roads (e0 _) h2]
    simp
end
end L2.HW
namespace L2.HW
open PySem PySem.Spec PyProof.Rows L2.HW.G PySem.NumText TL
section
variable {n p : Nat} {W : Wb} {ps : List (List Rd)} {L : LH} {env : En} {f : EF}
theorem place_nat {k : Nat} {i : Nat} (h : i < k) : placeB (k : Int) (.int (i : Int)) = true := by
  simp only [placeB, Bool.and_eq_true, decide_eq_true_eq]
  omega
theorem inc_ev {g : EF} {i : Nat} (hg : g env L = .ok (.d (.int (i : Int))) L) : eOp opAdd g (eC (.int 1)) env L = .ok (.d (.int ((i + 1 : Nat) : Int))) L := by
  rw [u_eOp, hg]
  simp
theorem cut_out (rs : List Rd) (i : Nat) : (rs.map Rd.d).take i ++ (rs.map Rd.d).drop (i + 1) = (rs.take i ++ rs.drop (i + 1)).map Rd.d := by
  rw [List.map_append, List.map_take, List.map_drop]
theorem drop_place {m : Nat} {x : PyData} {b : SFn} {E : En} (e0 : eVar 0 E L = .ok (.loc n) L) (ex : eVar 1 E L = .ok (.d x) L) (h : SAt n p W ps L) : sExpr (eCallM "Site" "look_at_place" F_Site_look_at_place (eVar 0) (aCons (eVar 1) aNil)) E L = if placeB (W.rs.length : Int) x then .nx E L else .exc "NoRoad" none E L := by
  rw [u_sExpr, cm_ev e0 h (al_cons ex al_nil)]
  simp only [List.map_cons, List.map_nil, look_place h]
  cases placeB (W.rs.length : Int) x <;> rfl
theorem site_drop {i : Nat} (h : SAt n p W ps L) (hz : ps.length ≤ 1000) (hw : W.rs.length ≤ 10000) (hi : i < W.rs.length) : F_Site_drop [.loc n, .d (.int (i : Int))] L = .ok (.d .none) (sSt n p (W.put (W.rs.take i ++ W.rs.drop (i + 1))) (ps ++ [W.rs]) L) := by
  have e0 : eVar 0 [some (.loc n), some (.d (.int (i : Int)))] L = .ok (.loc n) L := ev_v rfl
  have e1 : eVar 1 [some (.loc n), some (.d (.int (i : Int)))] L = .ok (.d (.int (i : Int))) L := ev_v rfl
  refine fnC_nx (env' := [some (.loc n), some (.d (.int (i : Int)))]) rfl ?_
  show b_Site_drop [some (.loc n), some (.d (.int (i : Int)))] L = _
  refine seq_nx (env1 := [some (.loc n), some (.d (.int (i : Int)))]) (L1 := L) ?_ ?_
  · rw [drop_place (m := 0) (b := sNil) e0 e1 h, place_nat hi]
    rfl
  · rw [u_sExpr, cm_ev e0 h (al_cons (add_ll (sl_to i (ev_roads e0 h) e1) (sl_fromG (i + 1) (ev_roads e0 h) (inc_ev e1)) (by simp; omega)) al_nil)]
    simp only [List.map_cons, List.map_nil]
    rw [cut_out, site_take h hz]
    rfl
theorem ix_road {i : Nat} {g : EF} (hi : i < W.rs.length) (hf : f env L = .ok (.d (rsD W.rs)) L) (hg : g env L = .ok (.d (.int (i : Int))) L) : eOp opIx f g env L = .ok (.d (W.rs[i]).d) L := by
  have dg : Va.dget L (.d (rsD W.rs)) (.d (.int (i : Int))) = none := rfl
  have at_ : atI ((W.rs.map Rd.d).map Va.d) (i : Int) = some (.d (W.rs[i]).d) := by
    simp [atI, ixN, hi, List.getElem?_eq_getElem hi]
  rw [u_eOp, hf]
  simp only [Res.bind_ok, hg, u_opIx, dg, Va.seq, at_]
theorem turn_road {i : Nat} {y z : PyData} (h : SAt n p W ps L) (hi : i < W.rs.length) {x4 : Option Va} : sSet 4 (eTup (aStar (eSl (eOp opIx (eFld "Site" "roads" (eVar 0)) (eVar 1)) pNone (pSome (eC (.int 2)))) (aCons (eVar 2) (aCons (eVar 3) aNil)))) [some (.loc n), some (.d (.int (i : Int))), some (.d y), some (.d z), x4] L = .nx [some (.loc n), some (.d (.int (i : Int))), some (.d y), some (.d z), some (.d (.tuple [.int (W.rs[i]).u, .int (W.rs[i]).v, y, z]))] L := by
  have e0 : eVar 0 [some (.loc n), some (.d (.int (i : Int))), some (.d y), some (.d z), x4] L = .ok (.loc n) L := ev_v rfl
  have e1 : eVar 1 [some (.loc n), some (.d (.int (i : Int))), some (.d y), some (.d z), x4] L = .ok (.d (.int (i : Int))) L := ev_v rfl
  have sl : eSl (eOp opIx (eFld "Site" "roads" (eVar 0)) (eVar 1)) pNone (pSome (eC (.int 2))) [some (.loc n), some (.d (.int (i : Int))), some (.d y), some (.d z), x4] L = .ok (.d (.tuple [.int (W.rs[i]).u, .int (W.rs[i]).v])) L := by
    have so : ∀ env M, pSome (eC (.int 2)) env M = .ok (some (2 : Int)) M := fun env M => by simp
    have sn : ∀ env M, pNone env M = .ok (none : Option Int) M := fun env M => by simp
    rw [u_eSl, ix_road hi (ev_roads e0 h) e1]
    simp only [Res.bind_ok, so, sn, Rd.d, u_opSl]
    rfl
  rw [u_sSet, tup_al (al_starT sl (al_cons (x := y) (ev_v rfl) (al_cons (x := z) (ev_v rfl) al_nil))) (by simp)]
  rfl
theorem turn_out (rs : List Rd) (i : Nat) (r : Rd) : PyData.list ((rs.map Rd.d).take i ++ r.d :: ((rs.map Rd.d).drop (i + 1) ++ [])) = rsD (rs.take i ++ r :: rs.drop (i + 1)) := by
  unfold rsD
  rw [List.map_append, List.map_cons, List.map_take, List.map_drop, List.append_nil]
theorem site_turn {i : Nat} {y z : Int} (h : SAt n p W ps L) (hz : ps.length ≤ 1000) (hw : W.rs.length ≤ 10000) (hi : i < W.rs.length) (hb : roadB W.m W.e (Rd.d ⟨(W.rs[i]).u, (W.rs[i]).v, y, z⟩) = true) : F_Site_turn [.loc n, .d (.int (i : Int)), .d (.int y), .d (.int z)] L = .ok (.d .none) (sSt n p (W.put (W.rs.take i ++ ⟨(W.rs[i]).u, (W.rs[i]).v, y, z⟩ :: W.rs.drop (i + 1))) (ps ++ [W.rs]) L) := by
  have ed : PyData.tuple [.int (W.rs[i]).u, .int (W.rs[i]).v, .int y, .int z] = Rd.d ⟨(W.rs[i]).u, (W.rs[i]).v, y, z⟩ := rfl
  obtain ⟨E, hE⟩ : ∃ E : En, E = [some (.loc n), some (.d (.int (i : Int))), some (.d (.int y)), some (.d (.int z)), some (.d (.tuple [.int (W.rs[i]).u, .int (W.rs[i]).v, .int y, .int z]))] := ⟨_, rfl⟩
  have e0 : eVar 0 E L = .ok (.loc n) L := ev_v (by rw [hE]; rfl)
  have e1 : eVar 1 E L = .ok (.d (.int (i : Int))) L := ev_v (by rw [hE]; rfl)
  have e4 : eVar 4 E L = .ok (.d (.tuple [.int (W.rs[i]).u, .int (W.rs[i]).v, .int y, .int z])) L := ev_v (by rw [hE]; rfl)
  refine fnC_nx (env' := E) rfl ?_
  show b_Site_turn [some (.loc n), some (.d (.int (i : Int))), some (.d (.int y)), some (.d (.int z)), none] L = _
  refine seq_nx (env1 := [some (.loc n), some (.d (.int (i : Int))), some (.d (.int y)), some (.d (.int z)), none]) (L1 := L) ?_ (seq_nx (turn_road h hi) ?_)
  · rw [drop_place (m := 0) (b := sNil) (ev_v rfl) (ev_v rfl) h, place_nat hi]
    rfl
  · rw [← hE]
    refine seq_nx (env1 := E) (L1 := L) ?_ ?_
    · rw [u_sExpr, cm_ev e0 h (al_cons e4 al_nil)]
      simp only [List.map_cons, List.map_nil, look_new h, ed, hb, if_true]
      rfl
    · rw [u_sExpr, cm_ev e0 h (al_cons (lst_al (al_star (sl_to i (ev_roads e0 h) e1) (al_cons e4 (al_star (sl_fromG (i + 1) (ev_roads e0 h) (inc_ev e1)) al_nil))) (by simp; omega)) al_nil)]
      simp only [List.map_cons, List.map_nil]
      rw [ed, turn_out, site_take h hz]
      rfl
theorem site_len (h : SAt n p W ps L) : F_Site_len [.loc n] L = .ok (.d (.int (W.rs.length : Int))) L := by
  refine fnC_rt rfl ?_
  show b_Site_len [some (.loc n)] L = _
  unfold b_Site_len
  rw [u_sRet, len_roads (ev_v rfl) h]
  rfl
theorem site_back (h : SAt n p W (ps ++ [rs']) L) : F_Site_back [.loc n] L = .ok (.d (.bool true)) (sSt n p (W.put rs') ps L) := by
  obtain ⟨hn, hp, ne⟩ := h
  have v : eVar 0 [some (.loc n)] L = .ok (.loc n) L := ev_v rfl
  refine fnC_rt rfl ?_
  show b_Site_back [some (.loc n)] L = _
  refine seq_nx (env1 := [some (.loc n)]) (L1 := L) ?_ (seq_nx (env1 := [some (.loc n)]) (L1 := sSt n p (W.put rs') ps L) ?_ ?_)
  · have t : tVal (eOp (opEqE false) (eFld "Site" "past" (eVar 0)) (eDat (fLst aNil))) [some (.loc n)] L = .ok false L := by
      rw [u_tVal, u_eOp, ev_past v ⟨hn, hp, ne⟩]
      simp only [Res.bind_ok, lst_al (xs := []) al_nil (by simp), u_opEqE, Va.items, Va.seq, hp]
      simp
    rw [u_sIf, t]
    rfl
  · have m : eMeth isLs mPop0 (eFld "Site" "past" (eVar 0)) aNil [some (.loc n)] L = .ok (.d (rsD rs')) (L.set p (psO ps)) := by
      rw [u_eMeth, ev_past v ⟨hn, hp, ne⟩]
      simp only [Res.bind_ok, isLs, hp, if_true, u_aNil, u_mPop0]
      simp
    rw [fldS_ev m (ev_v rfl) (fs := stF W p) ((List.getElem?_set_ne (Ne.symm ne)).trans hn) (by show 5 < 1000; omega)]
    show Out.nx _ ((L.set p (psO ps)).set n (stO (W.put rs') p)) = _
    unfold sSt
    rw [List.set_comm _ _ ne]
  · simp
theorem site_back0 (h : SAt n p W [] L) : F_Site_back [.loc n] L = .ok (.d (.bool false)) L := by
  obtain ⟨hn, hp, ne⟩ := h
  have v : eVar 0 [some (.loc n)] L = .ok (.loc n) L := ev_v rfl
  refine fnC_rt rfl ?_
  show b_Site_back [some (.loc n)] L = _
  refine seq_rt ?_
  have t : tVal (eOp (opEqE false) (eFld "Site" "past" (eVar 0)) (eDat (fLst aNil))) [some (.loc n)] L = .ok true L := by
    rw [u_tVal, u_eOp, ev_past v ⟨hn, hp, ne⟩]
    simp only [Res.bind_ok, lst_al (xs := []) al_nil (by simp), u_opEqE, Va.items, Va.seq, hp]
    simp
  rw [u_sIf, t]
  simp
end
end L2.HW
namespace L2.HW
open PySem PySem.Spec PyProof.Rows L2.HW.G PySem.NumText TL
theorem fine_wb {W : Wb} (gd : W.Good) (hs : W.Sm (2 ^ 100)) : fine W.d = true := by
  have lg : ∀ i : Int, 0 ≤ i → i ≤ 2 ^ 100 → i.natAbs.log2 < 1920 := fun i h0 h1 => by
    have := log_of (x := i) (k := 200) (by omega) (by omega)
    omega
  have m2 := gd.m2; have mM := gd.mM; have b0 := gd.b0; have b1 := gd.b1; have e0 := gd.e0; have e1 := gd.e1
  have a1 := lg W.m (by omega) (by omega)
  have a2 := lg W.b (by omega) (by omega)
  have a3 := lg W.e (by omega) (by omega)
  have f : fineAll (W.rs.map Rd.d) = true := fineAll_iff.mpr fun x hx => by
    obtain ⟨r, hr, rfl⟩ := List.mem_map.mp hx
    have g := gd.rs r hr
    have s := hs r hr
    have u0 := g.u0; have u1 := g.u1; have v0 := g.v0; have v1 := g.v1; have l1 := g.l1; have w1 := g.w1
    have c1 := lg r.u (by omega) (by omega)
    have c2 := lg r.v (by omega) (by omega)
    have c3 := lg r.l (by omega) (by omega)
    have c4 := lg r.w (by omega) (by omega)
    simp [Rd.d, fine, fineAll, c1, c2, c3, c4]
  simp [Wb.d, fine, fineAll, a1, a2, a3, f]
theorem depth_wb (W : Wb) : W.d.depth ≤ 3 := by
  have d : PyData.depthAll (W.rs.map Rd.d) ≤ 1 := depthAll_le.mpr fun x hx => by
    obtain ⟨r, _, rfl⟩ := List.mem_map.mp hx
    simp [Rd.d, PyData.depth, PyData.depthAll]
  simp [Wb.d, PyData.depth, PyData.depthAll]
  omega
theorem smD_wb {W : Wb} (gd : W.Good) (hs : W.Sm (2 ^ 100)) : SmD W.d := ne_self (fine_wb gd hs) (by have := depth_wb W; omega)
theorem t_eqI {v : Nat} {i j : Int} {env : En} {L : LH} (h : env[v]? = some (some (.d (.int i)))) : tVal (eOp opEq (eVar v) (eC (.int j))) env L = .ok (decide (i = j)) L := by
  have k := cmpOk_int i j
  rw [u_tVal, u_eOp, ev_v h]
  simp only [Res.bind_ok, u_eC, u_opEq, data_d, if_pos k, eqv_int]
theorem if_t {t : En → LH → Res Bool} {f g : SFn} {env : En} {L : LH} (h : t env L = .ok true L) : sIf t f g env L = f env L := by
  rw [u_sIf, h]
  rfl
theorem if_f {t : En → LH → Res Bool} {f g : SFn} {env : En} {L : LH} (h : t env L = .ok false L) : sIf t f g env L = g env L := by
  rw [u_sIf, h]
  rfl
end L2.HW
namespace L2.HW
open PySem PySem.Spec PyProof.Rows L2.HW.G PySem.NumText TL
theorem fldT_ev {c x : Str} {f : EF} {u : Va} {env : En} {M : LH} {n : Nat} {fs : List (Str × Va)} (h : f env M = .ok (.loc n) M) (hL : M[n]? = some (some (.ins c fs))) (hz : fs.length < 1000) : tFldG c x f u env M = .ok env (M.set n (some (.ins c (putA x u fs)))) := by
  rw [u_tFldG, h]
  simp only [Res.bind_ok, hL]
  rw [if_pos ⟨trivial, hz⟩]
theorem tg_cons {g : Va → En → LH → Res En} {gs : List Va → En → LH → Res En} {w : Va} {ws : List Va} {env env1 : En} {L L1 : LH} {r : Res En} (h : g w env L = .ok env1 L1) (k : gs ws env1 L1 = r) : tgCons g gs (w :: ws) env L = r := by
  rw [u_tgCons]
  simp only [h, Res.bind_ok]
  exact k
theorem tup_T {n : Nat} {g : List Va → En → LH → Res En} {w : Va} {ws : List Va} {env : En} {L : LH} {r : Res En} (sq : w.seq L = some ws) (hl : ws.length = n) (k : g ws env L = r) : tTupT n g w env L = r := by
  rw [u_tTupT, sq]
  simp only [if_pos hl]
  exact k
theorem last_get (L : LH) (o : Option Ob) : (L ++ [o])[L.length]? = some o := by simp
theorem last_set (L : LH) (o o' : Option Ob) : (L ++ [o]).set L.length o' = L ++ [o'] := by
  rw [List.set_append_right _ _ (Nat.le_refl _)]
  simp
theorem last_set2 (L : LH) (o o' q : Option Ob) : (L ++ [o] ++ [q]).set L.length o' = L ++ [o', q] := by
  rw [List.append_assoc, List.set_append_right _ _ (Nat.le_refl _)]
  simp
theorem init_ok {W : Wb} (gd : W.Good) (L : LH) : F_Site_init [.loc L.length, .d W.d] (L ++ [some (.ins "Site" [])]) = .ok (.d .none) (L ++ [stO W (L.length + 1), psO []]) := by
  have zs := sizeLine_eq
  obtain ⟨E, hE⟩ : ∃ E : Option Va → En, E = fun x => [some (.loc L.length), some (.d W.d), x] := ⟨_, rfl⟩
  have e0 : ∀ x M, eVar 0 (E x) M = .ok (.loc L.length) M := fun x M => ev_v (by rw [hE]; rfl)
  have e1 : ∀ x M, eVar 1 (E x) M = .ok (.d W.d) M := fun x M => ev_v (by rw [hE]; rfl)
  refine fnC_nx (env' := E (some (.d (.tuple (W.rs.map Rd.d))))) rfl ?_
  show b_Site_init [some (.loc L.length), some (.d W.d), none] _ = _
  have eE : [some (.loc L.length), some (.d W.d), none] = E none := by rw [hE]
  rw [eE]
  refine seq_nx (env1 := E none) (L1 := L ++ [some (.ins "Site" [])]) ?_ ?_
  · rw [u_sExpr, u_eCall, al_cons (e1 _ _) al_nil]
    simp only [Res.bind_ok, List.map_cons, List.map_nil, look_web gd, then_ok]
  refine seq_nx (env1 := E (some (.d (.tuple (W.rs.map Rd.d))))) (L1 := L ++ [some (.ins "Site" [("many", .d (.int W.m)), ("begin", .d (.int W.b)), ("end", .d (.int W.e))])]) ?_ ?_
  · have t : (tTupT 4 (tgCons (tFldG "Site" "many" (eVar 0)) (tgCons (tFldG "Site" "begin" (eVar 0)) (tgCons (tFldG "Site" "end" (eVar 0)) (tgCons (tN 2) tgNil))))) (.d W.d) (E none) (L ++ [some (.ins "Site" [])]) = .ok (E (some (.d (.tuple (W.rs.map Rd.d))))) (L ++ [some (.ins "Site" [("many", .d (.int W.m)), ("begin", .d (.int W.b)), ("end", .d (.int W.e))])]) := by
      have sq : (Va.d W.d).seq (L ++ [some (.ins "Site" [])]) = some [.d (.int W.m), .d (.int W.b), .d (.int W.e), .d (.tuple (W.rs.map Rd.d))] := rfl
      refine tup_T sq rfl ?_
      refine tg_cons (fldT_ev (e0 _ _) (last_get _ _) (by show 0 < 1000; omega)) ?_
      rw [last_set]
      refine tg_cons (fldT_ev (e0 _ _) (last_get _ _) (by show 1 < 1000; omega)) ?_
      rw [last_set]
      refine tg_cons (fldT_ev (e0 _ _) (last_get _ _) (by show 2 < 1000; omega)) ?_
      rw [last_set]
      refine tg_cons (env1 := E (some (.d (.tuple (W.rs.map Rd.d))))) (L1 := L ++ [some (.ins "Site" [("many", .d (.int W.m)), ("begin", .d (.int W.b)), ("end", .d (.int W.e))])]) ?_ (by rw [u_tgNil])
      rw [u_tN, hE]
      rfl
    rw [u_sAsg, e1]
    simp only [then_ok, t]
  refine seq_nx (env1 := E (some (.d (.tuple (W.rs.map Rd.d))))) (L1 := L ++ [some (.ins "Site" [("many", .d (.int W.m)), ("begin", .d (.int W.b)), ("end", .d (.int W.e)), ("roads", .d (rsD W.rs))])]) ?_ ?_
  · have rv : ∀ M, eDat (fCallB cList (aCons (eVar 2) aNil)) (E (some (.d (.tuple (W.rs.map Rd.d))))) M = .ok (.d (rsD W.rs)) M := fun M => by
      rw [u_eDat, u_fCallB, al_cons (x := .tuple (W.rs.map Rd.d)) (ev_v (by rw [hE]; rfl)) al_nil]
      simp only [Res.bind_ok, List.map_cons, List.map_nil, u_cList, Va.seq, va_lst]
    rw [fldS_ev (rv _) (e0 _ _) (last_get _ _) (by show 3 < 1000; omega), last_set]
    rfl
  · have nv : eNew (fLst aNil) (E (some (.d (.tuple (W.rs.map Rd.d))))) (L ++ [some (.ins "Site" [("many", .d (.int W.m)), ("begin", .d (.int W.b)), ("end", .d (.int W.e)), ("roads", .d (rsD W.rs))])]) = .ok (.loc (L.length + 1)) (L ++ [some (.ins "Site" [("many", .d (.int W.m)), ("begin", .d (.int W.b)), ("end", .d (.int W.e)), ("roads", .d (rsD W.rs))])] ++ [some (.lst [])]) := by
      simp
    rw [fldS_ev nv (e0 _ _) (fs := [("many", .d (.int W.m)), ("begin", .d (.int W.b)), ("end", .d (.int W.e)), ("roads", .d (rsD W.rs))]) (by rw [List.getElem?_append_left (by simp)]; exact last_get _ _) (by show 4 < 1000; omega), last_set2]
    rfl
theorem make_ok {W : Wb} (gd : W.Good) {f : EF} {env : En} {L : LH} (h : f env L = .ok (.d W.d) L) : eMake "Site" F_Site_init (aCons f aNil) env L = .ok (.loc L.length) (L ++ [stO W (L.length + 1), psO []]) := by
  rw [u_eMake, al_cons h al_nil]
  simp only [Res.bind_ok, List.map_cons, List.map_nil, init_ok gd]
theorem made_at (W : Wb) (L : LH) : SAt L.length (L.length + 1) W [] (L ++ [stO W (L.length + 1), psO []]) := by
  refine ⟨by simp, ?_, by omega⟩
  rw [List.getElem?_append_right (by omega)]
  simp
theorem SAt.app {n p : Nat} {W : Wb} {ps : List (List Rd)} {L : LH} (h : SAt n p W ps L) (g : LH) : SAt n p W ps (L ++ g) := ⟨by rw [List.getElem?_append_left h.ln]; exact h.1, by rw [List.getElem?_append_left h.lp]; exact h.2.1, h.2.2⟩
theorem take3 {W : Wb} {f : EF} {env : En} {L : LH} (h : f env L = .ok (.d W.d) L) : eSl f pNone (pSome (eC (.int 3))) env L = .ok (.d (.tuple [.int W.m, .int W.b, .int W.e])) L := by
  have so : pSome (eC (.int 3)) env L = .ok (some (3 : Int)) L := by simp
  have sn : pNone env L = .ok (none : Option Int) L := by simp
  rw [u_eSl, h]
  simp only [Res.bind_ok, so, sn, Wb.d, u_opSl]
  rfl
theorem eqv3 {a b c d e f : Int} : PyData.eqv (.tuple [.int a, .int b, .int c]) (.tuple [.int d, .int e, .int f]) = (decide (a = d) && (decide (b = e) && decide (c = f))) := by
  simp [PyData.eqv, PyData.eqvAll, eqv_int]
  rfl
theorem ok3 {a b c d e f : Int} : cmpOk (.tuple [.int a, .int b, .int c]) (.tuple [.int d, .int e, .int f]) = true := cmpOk_of (by simp [SeqAt.shaped, PyData.canLay0, PyData.canLayAll0, PyData.depth, PyData.depthAll]) (by simp [SeqAt.shaped, PyData.canLay0, PyData.canLayAll0, PyData.depth, PyData.depthAll])
section
variable {n p n2 p2 : Nat} {W W2 : Wb} {ps ps2 : List (List Rd)} {L : LH}
theorem ior_test (h : SAt n p W ps L) (h2 : SAt n2 p2 W2 ps2 L) : tOrF (tNotF (tVal (eIsO "Site" (eVar 1)))) (tVal (eOp opNe (eSl (eCallM "Site" "web" F_Site_web (eVar 0) aNil) pNone (pSome (eC (.int 3)))) (eSl (eCallM "Site" "web" F_Site_web (eVar 1) aNil) pNone (pSome (eC (.int 3)))))) [some (.loc n), some (.loc n2)] L = .ok (!(decide (W.m = W2.m) && (decide (W.b = W2.b) && decide (W.e = W2.e)))) L := by
  have t : tVal (eIsO "Site" (eVar 1)) [some (.loc n), some (.loc n2)] L = .ok true L := by
    rw [u_tVal, u_eIsO, ev_v (w := .loc n2) rfl]
    simp [Va.kind, h2.1]
  have w1 : eCallM "Site" "web" F_Site_web (eVar 0) aNil [some (.loc n), some (.loc n2)] L = .ok (.d W.d) L := by
    rw [cm_ev (ev_v rfl) h (by rw [u_aNil]), site_web h]
  have w2 : eCallM "Site" "web" F_Site_web (eVar 1) aNil [some (.loc n), some (.loc n2)] L = .ok (.d W2.d) L := by
    rw [cm_ev (ev_v rfl) h2 (by rw [u_aNil]), site_web h2]
  rw [u_tOrF, u_tNotF, t]
  simp only [Res.bind_ok, Bool.not_true, Bool.false_eq_true, if_false]
  rw [u_tVal, u_eOp, take3 w1]
  simp only [Res.bind_ok, take3 w2, u_opNe, data_d, ok3, if_true, eqv3]
theorem ior_ok (h : SAt n p W ps L) (h2 : SAt n2 p2 W2 ps2 L) (e1 : W.m = W2.m) (e2 : W.b = W2.b) (e3 : W.e = W2.e) (hz : ps.length ≤ 1000) (hw : W.rs.length ≤ 10000) (hw2 : W2.rs.length ≤ 10000) : F_Site_ior [.loc n, .loc n2] L = .ok (.loc n) (sSt n p (W.put (W.rs ++ W2.rs)) (ps ++ [W.rs]) L) := by
  refine fnC_rt rfl ?_
  show b_Site_ior [some (.loc n), some (.loc n2)] L = _
  refine seq_nx (env1 := [some (.loc n), some (.loc n2)]) (L1 := L) ?_ (seq_nx (env1 := [some (.loc n), some (.loc n2)]) (L1 := sSt n p (W.put (W.rs ++ W2.rs)) (ps ++ [W.rs]) L) ?_ ?_)
  · rw [if_f (by rw [ior_test h h2, e1, e2, e3]; simp), u_sNil]
  · have k : eOp opAdd (eFld "Site" "roads" (eVar 0)) (eFld "Site" "roads" (eVar 1)) [some (.loc n), some (.loc n2)] L = .ok (.d (rsD (W.rs ++ W2.rs))) L := by
      rw [add_ll (ev_roads (ev_v rfl) h) (ev_roads (ev_v rfl) h2) (by simp; omega), ← List.map_append]
    rw [u_sExpr, cm_ev (ev_v rfl) h (al_cons k al_nil)]
    simp only [List.map_cons, List.map_nil]
    rw [site_take h hz]
    rfl
  · rw [u_sRet, ev_v (w := .loc n) rfl]
    rfl
end
end L2.HW
namespace L2.HW
open PySem PySem.Spec PyProof.Rows L2.HW.G PySem.NumText TL
section
variable {n p n2 p2 : Nat} {W W2 : Wb} {ps ps2 : List (List Rd)} {L : LH} {x y z w : PyData} {a1 a2 a3 a4 : Va}
theorem aug_ok {F : Fn} {f : EF} {env : En} {v : Va} {i : Nat} {M : LH} (he : env[i]? = some (some (.loc n))) (hf : f env L = .ok v L) (h : SAt n p W ps L) (hF : F [.loc n, v] L = .ok (.loc n) M) : sAugO "Site" F i f env L = .nx env M := by
  rw [u_sAugO, he]
  simp only [hf, then_ok]
  unfold insF
  simp only [h.1, if_true, hF, then_ok]
  rw [set_back he]
end
end L2.HW
namespace L2.HW
open PySem PySem.Spec PyProof.Rows L2.HW.G PySem.NumText TL
theorem ev_c {x : PyData} {env : En} {L : LH} : eC x env L = .ok (.d x) L := by rw [u_eC]
section
variable {n p : Nat} {W : Wb} {ps : List (List Rd)} {L : LH}
theorem len_site {f : EF} {env : En} (hf : f env L = .ok (.loc n) L) (h : SAt n p W ps L) (hw : W.rs.length ≤ 10000) : eLenO "Site" F_Site_len (aCons f aNil) env L = .ok (.d (.int (W.rs.length : Int))) L := by
  rw [u_eLenO, u_aCons, hf]
  simp only [Res.bind_ok, u_aNil, h.1, if_true, site_len h, lenOk]
  rw [if_pos (by omega)]
theorem sm_nil : SmD (.list []) := ⟨by decide, by decide⟩
end
end L2.HW
namespace L2.HW
open PySem PySem.Spec PyProof.Rows L2.HW.G PySem.NumText TL
theorem good_put {W : Wb} (g : W.Good) {rs : List Rd} (h : ∀ r ∈ rs, Rd.Good W.m W.e r) (hl : rs.length ≤ 10000) : (W.put rs).Good := ⟨g.m2, g.mM, g.b0, g.b1, g.e0, g.e1, g.be, h, hl⟩
theorem roadB_good {m e : Int} {r : Rd} (g : Rd.Good m e r) : roadB m e r.d = true := by
  have h1 := g.u0; have h2 := g.u1; have h3 := g.ue; have h4 := g.v0; have h5 := g.v1; have h6 := g.uv; have h7 := g.l1; have h8 := g.w1
  simp [Rd.d, roadB, h1, h2, h3, h4, h5, h6, h7, h8]
theorem road_lw {m e : Int} {r : Rd} (g : Rd.Good m e r) {l w : Int} (hl : 1 ≤ l) (hw : 1 ≤ w) : Rd.Good m e ⟨r.u, r.v, l, w⟩ := ⟨g.u0, g.u1, g.ue, g.v0, g.v1, g.uv, hl, hw⟩
theorem road_be {W : Wb} (g : W.Good) {l w : Int} (hl : 1 ≤ l) (hw : 1 ≤ w) : Rd.Good W.m W.e ⟨W.b, W.e, l, w⟩ := ⟨g.b0, g.b1, g.be, g.e0, g.e1, g.be, hl, hw⟩
theorem al_step {f : EF} {fs : En → LH → Res (List Va)} {x : PyData} {xs : List PyData} {env : En} {L L1 L2 : LH} (h : f env L = .ok (.d x) L1) (hs : fs env L1 = .ok (xs.map Va.d) L2) : aCons f fs env L = .ok ((x :: xs).map Va.d) L2 := by
  rw [u_aCons, h]
  simp only [Res.bind_ok, hs, List.map_cons]
theorem lst_st {fs : En → LH → Res (List Va)} {xs : List PyData} {env : En} {L L2 : LH} (h : fs env L = .ok (xs.map Va.d) L2) (hz : xs.length ≤ 16000000) : eDat (fLst fs) env L = .ok (.d (.list xs)) L2 := by
  have zs := sizeLine_eq
  rw [u_eDat, u_fLst, h]
  simp only [Res.bind_ok]
  rw [if_pos (by rw [List.length_map]; omega)]
  simp only [Res.bind_ok, va_lst]
theorem add_st {f g : EF} {xs ys : List PyData} {env : En} {L L1 L2 : LH} (h : f env L = .ok (.d (.list xs)) L1) (hg : g env L1 = .ok (.d (.list ys)) L2) (hz : xs.length + ys.length ≤ 16000000) : eOp opAdd f g env L = .ok (.d (.list (xs ++ ys))) L2 := by
  have zs := sizeLine_eq
  rw [u_eOp, h]
  simp only [Res.bind_ok, hg]
  show opAdd _ _ _ = _
  rw [u_opAdd]
  simp only [items_list]
  rw [if_pos (by rw [List.length_map, List.length_map]; omega)]
  simp only [datas_map]
theorem set_st {i : Nat} {f : EF} {w : Va} {env : En} {L L1 : LH} (h : f env L = .ok w L1) : sSet i f env L = .nx (env.set i (some w)) L1 := by
  rw [u_sSet, h]
  rfl
theorem ne_st {f g : EF} {x : PyData} {env : En} {L L1 L2 : LH} (hf : f env L = .ok (.d x) L1) (hg : g env L1 = .ok (.d x) L2) (h : SmD x) : tVal (eOp opNe f g) env L = .ok false L2 := by
  rw [u_tVal, u_eOp, hf]
  simp only [Res.bind_ok, hg, u_opNe, data_d, h.1, if_true, h.2, Bool.not_true]
theorem if_st {t : En → LH → Res Bool} {f g : SFn} {env : En} {L L1 : LH} (h : t env L = .ok false L1) : sIf t f g env L = g env L1 := by
  rw [u_sIf, h]
  rfl
theorem or_f {s t : En → LH → Res Bool} {env : En} {L L1 : LH} {r : Res Bool} (h : s env L = .ok false L1) (k : t env L1 = r) : tOrF s t env L = r := by
  rw [u_tOrF, h]
  simp only [Res.bind_ok, Bool.false_eq_true, if_false]
  exact k
theorem compL_st {g : Va → En → LH → Res En} {f : EF} {env env1 : En} {L L1 L2 : LH} {w u : Va} {ws us : List Va} (h1 : g w env L = .ok env1 L) (h2 : f env1 L = .ok u L1) (k : compL g tTrue f ws env L1 = .ok us L2) : compL g tTrue f (w :: ws) env L = .ok (u :: us) L2 := by
  unfold compL
  rw [h1]
  simp only [u_tTrue, if_true, h2, k, Res.bind_ok]
theorem SAt.lock {n p i : Nat} {W : Wb} {ps : List (List Rd)} {L : LH} (h : SAt n p W ps L) (o : Option Ob) (h1 : i ≠ n) (h2 : i ≠ p) : SAt n p W ps (L.set i o) := ⟨by rw [List.getElem?_set_ne h1]; exact h.1, by rw [List.getElem?_set_ne h2]; exact h.2.1, h.2.2⟩
end L2.HW
namespace L2.HW
open PySem PySem.Spec PyProof.Rows L2.HW.G PySem.NumText TL
theorem av_cons {f : EF} {fs : En → LH → Res (List Va)} {w : Va} {ws : List Va} {env : En} {L L1 L2 : LH} (h : f env L = .ok w L1) (hs : fs env L1 = .ok ws L2) : aCons f fs env L = .ok (w :: ws) L2 := by
  rw [u_aCons, h]
  simp only [Res.bind_ok, hs]
theorem av_nil {env : En} {L : LH} : aNil env L = .ok [] L := by rw [u_aNil]
theorem ix3 {W : Wb} {f : EF} {env : En} {L : LH} (h : f env L = .ok (.d W.d) L) : eOp opIx f (eC (.int 3)) env L = .ok (.d (.tuple (W.rs.map Rd.d))) L := by
  rw [u_eOp, h]
  simp only [Res.bind_ok, ev_c, u_opIx]
  have dg : Va.dget L (.d W.d) (.d (.int 3)) = none := rfl
  have sq : (Va.d W.d).seq L = some [.d (.int W.m), .d (.int W.b), .d (.int W.e), .d (.tuple (W.rs.map Rd.d))] := rfl
  simp [dg, sq, atI, ixN]
theorem list_tup {xs : List PyData} {f : EF} {env : En} {L : LH} (h : f env L = .ok (.d (.tuple xs)) L) : eDat (fCallB cList (aCons f aNil)) env L = .ok (.d (.list xs)) L := by
  rw [u_eDat, u_fCallB, al_cons h al_nil]
  simp only [Res.bind_ok, List.map_cons, List.map_nil, u_cList, Va.seq, va_lst]
theorem notin2 {x b e : Int} {f g h : EF} {env : En} {L : LH} (hf : f env L = .ok (.d (.int x)) L) (hg : g env L = .ok (.d (.int b)) L) (hh : h env L = .ok (.d (.int e)) L) : tVal (eOp (opIn true) f (eDat (fLst (aCons g (aCons h aNil))))) env L = .ok (decide (x ≠ b ∧ x ≠ e)) L := by
  have dg : Va.dget L (.d (.list [.int b, .int e])) (.d (.int x)) = none := rfl
  have sh : SeqAt.shaped (.list [.int b, .int e]) = true := by simp [SeqAt.shaped, PyData.canLay0, PyData.canLayAll0, PyData.depth, PyData.depthAll]
  rw [u_tVal, u_eOp, hf]
  simp only [Res.bind_ok, lst_al (al_cons hg (al_cons hh al_nil)) (by simp), u_opIn, dg, data_d, shaped_int, sh, Bool.and_self, if_true]
  simp only [List.any_cons, List.any_nil, Bool.or_false, eqv_int, Bool.not_or]
  congr 1
  by_cases h1 : x = b
  · simp [h1]
  · by_cases h2 : x = e
    · simp [h2]
    · have h1' : ¬ b = x := fun z => h1 z.symm
      have h2' : ¬ e = x := fun z => h2 z.symm
      simp [h1, h2, h1', h2']
end L2.HW
namespace L2.HW
open PySem PySem.Spec PyProof.Rows L2.HW.G PySem.NumText TL
end L2.HW
namespace L2.HW
open PySem PySem.Spec PyProof.Rows L2.HW.G PySem.NumText TL
theorem eqv_rd (a c : Rd) : PyData.eqv a.d c.d = decide (a = c) := by
  obtain ⟨u, v, l, w⟩ := a
  obtain ⟨u', v', l', w'⟩ := c
  refine Bool.eq_iff_iff.mpr ?_
  simp [Rd.d, PyData.eqv, PyData.eqvAll, eqv_int, Rd.mk.injEq]
theorem eqv_rds : ∀ a c : List Rd, PyData.eqvAll (a.map Rd.d) (c.map Rd.d) = decide (a = c)
  | [], [] => by simp [PyData.eqvAll]
  | [], _ :: _ => by simp [PyData.eqvAll]
  | _ :: _, [] => by simp [PyData.eqvAll]
  | a :: as, c :: cs => by
    simp only [List.map_cons, PyData.eqvAll, eqv_rd, eqv_rds as cs, List.cons.injEq, ← Bool.decide_and]
theorem eqv_tups (a c : List Rd) : PyData.eqv (.tuple (a.map Rd.d)) (.tuple (c.map Rd.d)) = decide (a = c) := by
  rw [← eqv_rds]
  simp [PyData.eqv]
theorem eqv_wb (A B : Wb) : PyData.eqv A.d B.d = decide (A = B) := by
  obtain ⟨m, b, e, rs⟩ := A
  obtain ⟨m', b', e', rs'⟩ := B
  have := eqv_tups rs rs'
  simp only [Wb.d, PyData.eqv, PyData.eqvAll, eqv_int, Wb.mk.injEq] at this ⊢
  rw [this]
  refine Bool.eq_iff_iff.mpr ?_
  simp
theorem cmp_fine {x y : PyData} (hx : fine x = true) (hy : fine y = true) (dx : x.depth ≤ 60) (dy : y.depth ≤ 60) : cmpOk x y = true := cmpOk_of (shaped_of hx (by omega)) (shaped_of hy (by omega))
structure OkW (W : Wb) : Prop where
  gd : W.Good
  sm : W.Sm (2 ^ 100)
theorem OkW.cmp {A B : Wb} (a : OkW A) (b : OkW B) : cmpOk A.d B.d = true := cmp_fine (fine_wb a.gd a.sm) (fine_wb b.gd b.sm) (by have := depth_wb A; omega) (by have := depth_wb B; omega)
theorem OkW.sd {A : Wb} (a : OkW A) : SmD A.d := smD_wb a.gd a.sm
theorem web_ev {n p : Nat} {W : Wb} {ps : List (List Rd)} {f : EF} {env : En} {L M : LH} (hf : f env L = .ok (.loc n) M) (h : SAt n p W ps M) : eCallM "Site" "web" F_Site_web f aNil env L = .ok (.d W.d) M := by
  rw [cm_ev hf h (by rw [u_aNil]), site_web h]
section
variable {n p n2 p2 : Nat} {W W2 : Wb} {ps ps2 : List (List Rd)} {L : LH}
theorem and_t {f g : EF} {env : En} {L : LH} {r : Res Va} (h : f env L = .ok (.d (.bool true)) L) (k : g env L = r) : eAnd f g env L = r := by
  rw [u_eAnd, u_tVal, h]
  exact k
theorem and_f {f g : EF} {env : En} {L : LH} (h : f env L = .ok (.d (.bool false)) L) : eAnd f g env L = .ok (.d (.bool false)) L := by
  rw [u_eAnd, u_tVal, h]
  rfl
theorem eq_ev {f g : EF} {x y : PyData} {env : En} {L L1 L2 : LH} (hf : f env L = .ok (.d x) L1) (hg : g env L1 = .ok (.d y) L2) (h : cmpOk x y = true) : eOp opEq f g env L = .ok (.d (.bool (PyData.eqv x y))) L2 := by
  rw [u_eOp, hf]
  simp only [Res.bind_ok, hg, u_opEq, data_d, h, if_true]
theorem site_eq (h : SAt n p W ps L) (h2 : SAt n2 p2 W2 ps2 L) (o : OkW W) (o2 : OkW W2) : F_Site_eq [.loc n, .loc n2] L = .ok (.d (.bool (decide (W = W2)))) L := by
  refine fnC_rt rfl ?_
  show b_Site_eq [some (.loc n), some (.loc n2)] L = _
  have t : eIsO "Site" (eVar 1) [some (.loc n), some (.loc n2)] L = .ok (.d (.bool true)) L := by
    rw [u_eIsO, ev_v (w := .loc n2) rfl]
    simp [Va.kind, h2.1]
  unfold b_Site_eq
  rw [u_sRet, and_t t (eq_ev (web_ev (ev_v rfl) h) (web_ev (ev_v rfl) h2) (o.cmp o2)), eqv_wb]
  rfl
theorem site_eqD {x : PyData} (h : SAt n p W ps L) : F_Site_eq [.loc n, .d x] L = .ok (.d (.bool false)) L := by
  refine fnC_rt rfl ?_
  show b_Site_eq [some (.loc n), some (.d x)] L = _
  have t : eIsO "Site" (eVar 1) [some (.loc n), some (.d x)] L = .ok (.d (.bool false)) L := by
    rw [u_eIsO, ev_v (w := .d x) rfl]
    cases x <;> simp [Va.kind]
  unfold b_Site_eq
  rw [u_sRet, and_f t]
  rfl
theorem eqO_ev {neg : Bool} {f g : EF} {env : En} {L : LH} {n p n2 p2 : Nat} {W W2 : Wb} {ps ps2 : List (List Rd)} (hf : f env L = .ok (.loc n) L) (hg : g env L = .ok (.loc n2) L) (h : SAt n p W ps L) (h2 : SAt n2 p2 W2 ps2 L) (o : OkW W) (o2 : OkW W2) : eEqO neg "Site" F_Site_eq f g env L = .ok (.d (.bool (xor neg (decide (W = W2))))) L := by
  rw [u_eEqO, hf]
  simp only [Res.bind_ok, hg]
  have b : besO "Site" (.loc n2) L = true := by
    unfold besO
    simp [Va.kind, h2.1]
  rw [if_pos b]
  unfold insF
  simp only [h.1, if_true, site_eq h h2 o o2, blN, Res.bind_ok]
theorem eqO_evD {neg : Bool} {f g : EF} {x : PyData} {env : En} {L : LH} {n p : Nat} {W : Wb} {ps : List (List Rd)} (hf : f env L = .ok (.loc n) L) (hg : g env L = .ok (.d x) L) (h : SAt n p W ps L) : eEqO neg "Site" F_Site_eq f g env L = .ok (.d (.bool neg)) L := by
  rw [u_eEqO, hf]
  simp only [Res.bind_ok, hg]
  have b : besO "Site" (.d x) L = true := by
    unfold besO
    cases x <;> simp [Va.kind]
  rw [if_pos b]
  unfold insF
  simp only [h.1, if_true, site_eqD h, blN, Res.bind_ok, Bool.xor_false]
end
theorem fb_eqv (a b c d e a' b' c' d' e' : Bool) : PyData.eqv (.list [.bool a, .bool b, .bool c, .bool d, .bool e]) (.list [.bool a', .bool b', .bool c', .bool d', .bool e']) = (decide (a = a') && (decide (b = b') && (decide (c = c') && (decide (d = d') && decide (e = e'))))) := by
  cases a <;> cases b <;> cases c <;> cases d <;> cases e <;> cases a' <;> cases b' <;> cases c' <;> cases d' <;> cases e' <;> rfl
theorem fb_ok (a b c d e a' b' c' d' e' : Bool) : cmpOk (.list [.bool a, .bool b, .bool c, .bool d, .bool e]) (.list [.bool a', .bool b', .bool c', .bool d', .bool e']) = true := cmpOk_of (by simp [SeqAt.shaped, PyData.canLay0, PyData.canLayAll0, PyData.depth, PyData.depthAll]) (by simp [SeqAt.shaped, PyData.canLay0, PyData.canLayAll0, PyData.depth, PyData.depthAll])
theorem not_ev {f : EF} {b : Bool} {env : En} {L : LH} (h : f env L = .ok (.d (.bool b)) L) : eNot f env L = .ok (.d (.bool (!b))) L := by
  rw [u_eNot, u_tVal, h]
  rfl
theorem pair_good {n p n2 p2 : Nat} {W W2 : Wb} {ps ps2 : List (List Rd)} {L : LH} (h : SAt n p W ps L) (h2 : SAt n2 p2 W2 ps2 L) (o : OkW W) (o2 : OkW W2) : F_l_pair_good_v2 [.loc n, .loc n2, .d (.bool (decide (W = W2)))] L = .ok (.d (.bool true)) L := by
  have zs := sizeLine_eq
  refine fn_rt (L' := L) (x := .bool true) rfl ?_
  obtain ⟨E, hE⟩ : ∃ E : Option Va → En, E = fun x => [some (.loc n), some (.loc n2), some (.d (.bool (decide (W = W2)))), x, none] := ⟨_, rfl⟩
  have eE : [some (.loc n), some (.loc n2), some (.d (.bool (decide (W = W2)))), none, none] = E none := by rw [hE]
  show b_l_pair_good_v2 [some (.loc n), some (.loc n2), some (.d (.bool (decide (W = W2)))), none, none] L = _
  rw [eE]
  have e0 : ∀ x, eVar 0 (E x) L = .ok (.loc n) L := fun x => ev_v (by rw [hE]; rfl)
  have e1 : ∀ x, eVar 1 (E x) L = .ok (.loc n2) L := fun x => ev_v (by rw [hE]; rfl)
  have e2 : ∀ x, eVar 2 (E x) L = .ok (.d (.bool (decide (W = W2)))) L := fun x => ev_v (by rw [hE]; rfl)
  have sy : decide (W2 = W) = decide (W = W2) := by
    by_cases z : W = W2
    · simp [z]
    · have z2 : ¬ W2 = W := fun q => z q.symm
      simp [z, z2]
  generalize hd : decide (W = W2) = d at *
  have q0 := eqO_ev (neg := false) (e0 none) (e1 none) h h2 o o2
  have q1 := eqO_ev (neg := false) (e1 none) (e0 none) h2 h o2 o
  have q2 := eqO_ev (neg := false) (e0 none) (e0 none) h h o o
  have q3 := eqO_ev (neg := true) (e0 none) (e1 none) h h2 o o2
  have q4 := eqO_ev (neg := true) (e1 none) (e0 none) h2 h o2 o
  rw [hd, Bool.false_xor] at q0
  rw [sy, Bool.false_xor] at q1
  rw [decide_eq_true rfl, Bool.false_xor] at q2
  rw [hd, Bool.true_xor] at q3
  rw [sy, Bool.true_xor] at q4
  have es : ∀ x y, (E x).set 3 y = E y := fun x y => by rw [hE]; rfl
  have tl : sSet 3 (eDat (fLst (aCons (eEqO false "Site" F_Site_eq (eVar 0) (eVar 1)) (aCons (eEqO false "Site" F_Site_eq (eVar 1) (eVar 0)) (aCons (eEqO false "Site" F_Site_eq (eVar 0) (eVar 0)) (aCons (eEqO true "Site" F_Site_eq (eVar 0) (eVar 1)) (aCons (eEqO true "Site" F_Site_eq (eVar 1) (eVar 0)) aNil))))))) (E none) L = .nx (E (some (.d (.list [.bool d, .bool d, .bool true, .bool (!d), .bool (!d)])))) L := by
    rw [set_st (lst_al (al_cons q0 (al_cons q1 (al_cons q2 (al_cons q3 (al_cons q4 al_nil))))) (by simp)), es]
  obtain ⟨T, hT⟩ : ∃ T : List PyData, T = [.bool d, .bool d, .bool true, .bool (!d), .bool (!d)] := ⟨_, rfl⟩
  rw [← hT] at tl
  have e3 : eVar 3 (E (some (.d (.list T)))) L = .ok (.d (.list T)) L := ev_v (by rw [hE]; rfl)
  have fl : eDat (fComp (srcV (eVar 3)) (tN 4) (tNotF (tVal (eIsi "bool" (eVar 4)))) (eVar 4) [4]) (E (some (.d (.list T)))) L = .ok (.d (.list [])) L := by
    have c := fComp_filter (s := srcV (eVar 3)) (g := tN 4) (t := tNotF (tVal (eIsi "bool" (eVar 4)))) (f := eVar 4) (vs := [4]) (env := E (some (.d (.list T)))) (L := L) (xs := T) (fun _ => false) (by rw [u_srcV, e3]; rfl) (by rw [hT]; simp; omega) (fun x hx => ⟨(wipeE (E (some (.d (.list T)))) [4]).set 4 (some (.d x)), by rw [u_tN], by
      have v : eVar 4 ((wipeE (E (some (.d (.list T)))) [4]).set 4 (some (.d x))) L = .ok (.d x) L := ev_v (by rw [hE]; rfl)
      rw [hT] at hx
      simp only [List.mem_cons, List.not_mem_nil, or_false] at hx
      rw [u_tNotF, u_tVal, u_eIsi, v]
      rcases hx with rfl | rfl | rfl | rfl | rfl <;> simp [Va.kind, isKind], ev_v (by rw [hE]; rfl)⟩)
    have fl : ∀ xs : List PyData, xs.filter (fun _ => false) = [] := fun xs => by simp
    rw [fl] at c
    rw [u_eDat, c]
    rfl
  refine seq_nx tl (seq_nx (env1 := E (some (.d (.list T)))) (L1 := L) ?_ ?_)
  · rw [if_f (ne_same fl (lst_al al_nil (by simp)) sm_nil), u_sNil]
  · rw [u_sRet, eq_ev e3 (lst_al (al_cons (e2 _) (al_cons (e2 _) (al_cons (ev_c (x := .bool true)) (al_cons (not_ev (e2 _)) (al_cons (not_ev (e2 _)) al_nil))))) (by simp)) (by rw [hT]; exact fb_ok _ _ _ _ _ _ _ _ _ _), hT, fb_eqv]
    simp
end L2.HW
namespace L2.HW
open PySem PySem.Spec PyProof.Rows L2.HW.G PySem.NumText TL
structure Fr2 (n p : Nat) (L M : LH) : Prop where
  len : M.length = L.length
  out : ∀ i, i ≠ n → i ≠ p → M[i]? = L[i]?
theorem Fr2.refl {n p : Nat} {L : LH} : Fr2 n p L L := ⟨rfl, fun _ _ _ => rfl⟩
theorem Fr2.trans {n p : Nat} {L M N : LH} (a : Fr2 n p L M) (b : Fr2 n p M N) : Fr2 n p L N := ⟨b.len.trans a.len, fun i h k => (b.out i h k).trans (a.out i h k)⟩
theorem fr_st {n p : Nat} {L : LH} (W : Wb) (ps : List (List Rd)) : Fr2 n p L (sSt n p W ps L) := ⟨sSt_len, fun i h k => by
  unfold sSt
  rw [List.getElem?_set_ne (Ne.symm k), List.getElem?_set_ne (Ne.symm h)]⟩
theorem SAt.fr {n p n2 p2 : Nat} {W2 : Wb} {ps2 : List (List Rd)} {L M : LH} (h : SAt n2 p2 W2 ps2 L) (f : Fr2 n p L M) (d1 : n2 ≠ n) (d2 : n2 ≠ p) (d3 : p2 ≠ n) (d4 : p2 ≠ p) : SAt n2 p2 W2 ps2 M := ⟨(f.out _ d1 d2).trans h.1, (f.out _ d3 d4).trans h.2.1, h.2.2⟩
theorem kept_f2 {n p : Nat} {W W2 : Wb} {ps ps2 : List (List Rd)} {L M : LH} (h : SAt n p W ps L) (f : Fr2 n p L M) (h2 : SAt n p W2 ps2 M) : Kept L M := by
  intro i hi
  have lp := h.lp
  by_cases hp : p = i
  · subst hp
    refine .inr ⟨_, h2.2.1, ?_⟩
    have : (ps2.map fun rs => Va.d (rsD rs)) = (ps2.map rsD).map Va.d := by rw [List.map_map]; rfl
    show lows L.length (ps2.map fun rs => Va.d (rsD rs)) = true
    rw [this, lows_d]
  · by_cases hn : n = i
    · subst hn
      refine .inr ⟨_, h2.1, ?_⟩
      simp [Ob.low, Va.low, lp]
    · exact .inl (f.out i (fun z => hn z.symm) (fun z => hp z.symm))
theorem outV_f2 {n p : Nat} {W W2 : Wb} {ps ps2 : List (List Rd)} {L M : LH} (h : SAt n p W ps L) (f : Fr2 n p L M) (h2 : SAt n p W2 ps2 M) (w : Va) : outV L M (some w) = .ok w M := by
  simp only [outV]
  rw [if_pos (kept_f2 h f h2), List.take_of_length_le (by rw [f.len]; exact Nat.le_refl _)]
theorem fn_nxv {np nl : Nat} {body : SFn} {ws : List Va} {L L' L2 : LH} {env' : En} (hl : ws.length = np) (h : body (ws.map some ++ List.replicate (nl - ws.length) none) L = .nx env' L') (hk : outV L L' (some (.d .none)) = .ok (.d .none) L2) : mkFn np nl body ws L = .ok (.d .none) L2 := by
  unfold mkFn
  rw [if_pos hl, h]
  exact hk
def Op (n p : Nat) (F : Fn) (ws : List Va) (L : LH) (v : Va) (W2 : Wb) (ps2 : List (List Rd)) : Prop := ∃ M, F (.loc n :: ws) L = .ok v M ∧ SAt n p W2 ps2 M ∧ Fr2 n p L M
section
variable {n p : Nat} {W : Wb} {ps : List (List Rd)} {L : LH}
theorem op_of {F : Fn} {ws : List Va} {v : Va} {W2 : Wb} {ps2 : List (List Rd)} (h : SAt n p W ps L) (e : F (.loc n :: ws) L = .ok v (sSt n p W2 ps2 L)) : Op n p F ws L v W2 ps2 := ⟨_, e, h.st _ _, fr_st _ _⟩
theorem op_put {r : Rd} (h : SAt n p W ps L) (hz : ps.length ≤ 1000) (hw : W.rs.length ≤ 10000) (hr : roadB W.m W.e r.d = true) : Op n p F_Site_put [.d (.int r.u), .d (.int r.v), .d (.int r.l), .d (.int r.w)] L (.d (.int (W.rs.length : Int))) (W.put (W.rs ++ [r])) (ps ++ [W.rs]) := op_of h (site_put h hz hw hr)
theorem op_drop {i : Nat} (h : SAt n p W ps L) (hz : ps.length ≤ 1000) (hw : W.rs.length ≤ 10000) (hi : i < W.rs.length) : Op n p F_Site_drop [.d (.int (i : Int))] L (.d .none) (W.put (W.rs.take i ++ W.rs.drop (i + 1))) (ps ++ [W.rs]) := op_of h (site_drop h hz hw hi)
theorem op_turn {i : Nat} {y z : Int} (h : SAt n p W ps L) (hz : ps.length ≤ 1000) (hw : W.rs.length ≤ 10000) (hi : i < W.rs.length) (hb : roadB W.m W.e (Rd.d ⟨(W.rs[i]).u, (W.rs[i]).v, y, z⟩) = true) : Op n p F_Site_turn [.d (.int (i : Int)), .d (.int y), .d (.int z)] L (.d .none) (W.put (W.rs.take i ++ ⟨(W.rs[i]).u, (W.rs[i]).v, y, z⟩ :: W.rs.drop (i + 1))) (ps ++ [W.rs]) := op_of h (site_turn h hz hw hi hb)
theorem op_back {rs' : List Rd} (h : SAt n p W (ps ++ [rs']) L) : Op n p F_Site_back [] L (.d (.bool true)) (W.put rs') ps := op_of h (site_back h)
theorem op_ex {m : Str} {F : Fn} {f : EF} {fs : En → LH → Res (List Va)} {ws : List Va} {v : Va} {W2 : Wb} {ps2 : List (List Rd)} {env : En} (hf : f env L = .ok (.loc n) L) (h : SAt n p W ps L) (ha : fs env L = .ok ws L) (o : Op n p F ws L v W2 ps2) (hm : (stF W p).lookup m = none := by rfl) : ∃ M, sExpr (eCallM "Site" m F f fs) env L = .nx env M ∧ SAt n p W2 ps2 M ∧ Fr2 n p L M := by
  obtain ⟨M, e, s, fr⟩ := o
  refine ⟨M, ?_, s, fr⟩
  rw [u_sExpr, cm_ev hf h ha hm, e]
  rfl
theorem op_ev {m : Str} {F : Fn} {f : EF} {fs : En → LH → Res (List Va)} {ws : List Va} {v : Va} {W2 : Wb} {ps2 : List (List Rd)} {env : En} (hf : f env L = .ok (.loc n) L) (h : SAt n p W ps L) (ha : fs env L = .ok ws L) (o : Op n p F ws L v W2 ps2) (hm : (stF W p).lookup m = none := by rfl) : ∃ M, eCallM "Site" m F f fs env L = .ok v M ∧ SAt n p W2 ps2 M ∧ Fr2 n p L M := by
  obtain ⟨M, e, s, fr⟩ := o
  exact ⟨M, by rw [cm_ev hf h ha hm, e], s, fr⟩
end
theorem put_put (W : Wb) (a c : List Rd) : (W.put a).put c = W.put c := rfl
theorem put_self (W : Wb) : W.put W.rs = W := rfl
theorem OkW.put {W : Wb} (o : OkW W) {rs : List Rd} (h : ∀ r ∈ rs, Rd.Good W.m W.e r ∧ r.l ≤ 2 ^ 100 ∧ r.w ≤ 2 ^ 100) (hl : rs.length ≤ 10000) : OkW (W.put rs) := ⟨good_put o.gd (fun r hr => (h r hr).1) hl, fun r hr => (h r hr).2⟩
theorem OkW.mem {W : Wb} (o : OkW W) : ∀ r ∈ W.rs, Rd.Good W.m W.e r ∧ r.l ≤ 2 ^ 100 ∧ r.w ≤ 2 ^ 100 := fun r hr => ⟨o.gd.rs r hr, o.sm r hr⟩
def RdOk (W : Wb) (r : Rd) : Prop := Rd.Good W.m W.e r ∧ r.l ≤ 2 ^ 100 ∧ r.w ≤ 2 ^ 100
theorem rdOk_lw {W : Wb} {r : Rd} (g : RdOk W r) {l w : Int} (hl : 1 ≤ l) (hw : 1 ≤ w) (hl2 : l ≤ 2 ^ 100) (hw2 : w ≤ 2 ^ 100) : RdOk W ⟨r.u, r.v, l, w⟩ := ⟨road_lw g.1 hl hw, hl2, hw2⟩
theorem ixR {r : Rd} {f : EF} {env : En} {L : LH} (h : f env L = .ok (.d r.d) L) : eOp opIx f (eC (.int 0)) env L = .ok (.d (.int r.u)) L ∧ eOp opIx f (eC (.int 1)) env L = .ok (.d (.int r.v)) L ∧ eOp opIx f (eC (.int 2)) env L = .ok (.d (.int r.l)) L ∧ eOp opIx f (eC (.int 3)) env L = .ok (.d (.int r.w)) L := by
  have dg : ∀ k : Int, Va.dget L (.d r.d) (.d (.int k)) = none := fun k => rfl
  have sq : (Va.d r.d).seq L = some [.d (.int r.u), .d (.int r.v), .d (.int r.l), .d (.int r.w)] := rfl
  refine ⟨?_, ?_, ?_, ?_⟩ <;>
  · rw [u_eOp, h]
    simp only [Res.bind_ok, ev_c, u_opIx]
    simp [dg, sq, atI, ixN]
theorem al_road {r : Rd} {f : EF} {env : En} {L : LH} (h : f env L = .ok (.d r.d) L) : aCons (eOp opIx f (eC (.int 0))) (aCons (eOp opIx f (eC (.int 1))) (aCons (eOp opIx f (eC (.int 2))) (aCons (eOp opIx f (eC (.int 3))) aNil))) env L = .ok [.d (.int r.u), .d (.int r.v), .d (.int r.l), .d (.int r.w)] L := by
  obtain ⟨a, b, c, d⟩ := ixR h
  exact al_cons a (al_cons b (al_cons c (al_cons d al_nil)))
theorem deed_run {n p : Nat} {W : Wb} {ps : List (List Rd)} {L : LH} {r : Rd} {k : Nat} (h : SAt n p W ps L) (o : OkW W) (hz : ps.length ≤ 100) (hw : W.rs.length ≤ 100) (hr : RdOk W r) (hk : k < 3) :
    ∃ M rs2 ps2, F_l_deed [.loc n, .d (.int (k : Int)), .d r.d] L = .ok (.d .none) M ∧ SAt n p (W.put rs2) ps2 M ∧ Fr2 n p L M ∧ OkW (W.put rs2) ∧ (if k = 0 ∨ 0 < W.rs.length then ps2 = ps ++ [W.rs] else rs2 = W.rs ∧ ps2 = ps) := by
  obtain ⟨E, hE⟩ : ∃ E : En, E = [some (.loc n), some (.d (.int (k : Int))), some (.d r.d)] := ⟨_, rfl⟩
  have e0 : ∀ M, eVar 0 E M = .ok (.loc n) M := fun M => ev_v (by rw [hE]; rfl)
  have e2 : ∀ M, eVar 2 E M = .ok (.d r.d) M := fun M => ev_v (by rw [hE]; rfl)
  have tk : ∀ j : Int, tVal (eOp opEq (eVar 1) (eC (.int j))) E L = .ok (decide ((k : Int) = j)) L := fun j => t_eqI (by rw [hE]; rfl)
  have ln := len_site (e0 L) h (by omega)
  have tl : tVal (eOp opGt (eLenO "Site" F_Site_len (aCons (eVar 0) aNil)) (eC (.int 0))) E L = .ok (decide (0 < W.rs.length)) L := by
    rw [u_tVal, u_eOp, ln]
    simp
  have fin : ∀ {M : LH} {rs2 : List Rd} {ps2 : List (List Rd)}, b_l_deed E L = .nx E M → SAt n p (W.put rs2) ps2 M → Fr2 n p L M → F_l_deed [.loc n, .d (.int (k : Int)), .d r.d] L = .ok (.d .none) M := by
    intro M rs2 ps2 e s f
    rw [hE] at e
    exact fn_nxv rfl e (outV_f2 h f s _)
  have hk3 : k = 0 ∨ k = 1 ∨ k = 2 := by omega
  by_cases h0 : k = 0
  · obtain ⟨M, e, s, f⟩ := op_ex (m := "put") (e0 L) h (al_road (e2 L)) (op_put h (by omega) (by omega) (roadB_good hr.1))
    refine ⟨M, _, _, fin ?_ s f, s, f, o.put (fun x hx => ?_) (by simp; omega), by rw [if_pos (.inl h0)]⟩
    · unfold b_l_deed
      rw [if_t (by rw [tk, h0]; rfl), e]
    · rcases List.mem_append.mp hx with hx | hx
      · exact o.mem x hx
      · simp only [List.mem_cons, List.not_mem_nil, or_false] at hx
        subst hx
        exact hr
  · by_cases hp : 0 < W.rs.length
    · rcases hk3 with z | z | z
      · exact absurd z h0
      · obtain ⟨M, e, s, f⟩ := op_ex (m := "drop") (e0 L) h (al_cons (ev_c (x := .int ((0 : Nat) : Int))) al_nil) (op_drop (i := 0) h (by omega) (by omega) hp)
        refine ⟨M, _, _, fin ?_ s f, s, f, o.put (fun x hx => ?_) (by simp; omega), by rw [if_pos (.inr hp)]⟩
        · unfold b_l_deed
          rw [if_f (by rw [tk, z]; rfl), if_t (by rw [u_tAndF, tk, z, Res.bind_ok]; simp only [tl]; simp [hp])]
          exact e
        · simp only [List.take_zero, List.nil_append] at hx
          exact o.mem x (List.mem_of_mem_drop hx)
      · have hi : W.rs.length - 1 < W.rs.length := by omega
        have mm : W.rs[W.rs.length - 1] ∈ W.rs := List.getElem_mem hi
        have sb : eOp opSub (eLenO "Site" F_Site_len (aCons (eVar 0) aNil)) (eC (.int 1)) E L = .ok (.d (.int ((W.rs.length - 1 : Nat) : Int))) L := by
          rw [u_eOp, ln]
          simp
          omega
        obtain ⟨M, e, s, f⟩ := op_ex (m := "turn") (e0 L) h (al_cons sb (al_cons (ev_c (x := .int 7)) (al_cons (ev_c (x := .int 8)) al_nil))) (op_turn (i := W.rs.length - 1) h (by omega) (by omega) hi (roadB_good (road_lw (o.gd.rs _ mm) (by omega) (by omega))))
        refine ⟨M, _, _, fin ?_ s f, s, f, o.put (fun x hx => ?_) (by simp; omega), by rw [if_pos (.inr hp)]⟩
        · unfold b_l_deed
          rw [if_f (by rw [tk, z]; rfl), if_f (by rw [u_tAndF, tk, z, Res.bind_ok]; rfl), if_t (by rw [u_tAndF, tk, z, Res.bind_ok]; simp only [tl]; simp [hp])]
          exact e
        · rcases List.mem_append.mp hx with hx | hx
          · exact o.mem x (List.mem_of_mem_take hx)
          · rcases List.mem_cons.mp hx with hx | hx
            · subst hx
              exact rdOk_lw (o.mem _ mm) (by omega) (by omega) (by omega) (by omega)
            · exact o.mem x (List.mem_of_mem_drop hx)
    · refine ⟨L, W.rs, ps, fin ?_ h Fr2.refl, h, Fr2.refl, o, by rw [if_neg (by omega)]; exact ⟨rfl, rfl⟩⟩
      have fl : decide (0 < W.rs.length) = false := decide_eq_false hp
      unfold b_l_deed
      rw [if_f (by rw [tk, decide_eq_false (by omega)]), if_f, if_f, u_sNil]
      · rw [u_tAndF, tk, Res.bind_ok, tl, fl]; simp
      · rw [u_tAndF, tk, Res.bind_ok, tl, fl]; simp
end L2.HW
namespace L2.HW
open PySem PySem.Spec PyProof.Rows L2.HW.G PySem.NumText TL
theorem par_ev {i j : Nat} {f g : EF} {u v : Va} {env : En} {L L1 L2 : LH} (hf : f env L = .ok u L1) (hg : g env L1 = .ok v L2) : sPar i j (aCons f (aCons g aNil)) env L = .nx ((env.set i (some u)).set j (some v)) L2 := by
  rw [u_sPar, av_cons hf (av_cons hg av_nil)]
  rfl
theorem for_newl {g : Va → En → LH → Res En} {fs : En → LH → Res (List Va)} {body : SFn} {ws : List Va} {env env' : En} {L L1 M : LH} (ha : fs env L = .ok ws L1) (hz : ws.length ≤ 1000) (hb : forL g body ws env (L1 ++ [none]) = .nx env' M) : sFor (srcV (eNew (fLst fs))) g body env L = .nx env' (M.set L1.length (some (.lst ws))) := by
  have zs := sizeLine_eq
  have at_ : (L1 ++ [some (Ob.lst ws)])[L1.length]? = some (some (Ob.lst ws)) := last_get _ _
  have src : srcV (eNew (fLst fs)) env L = .ok (ws, some L1.length) (L1 ++ [some (.lst ws)]) := by
    rw [u_srcV, u_eNew, u_fLst, ha]
    simp only [Res.bind_ok]
    rw [if_pos (by omega)]
    simp only [Res.bind_ok]
    unfold srcOf
    simp only [at_]
  unfold sFor
  rw [src]
  simp only [then_ok, lockL]
  rw [last_set, hb]
  simp only [openOut, openL, at_]
theorem forL_step {g : Va → En → LH → Res En} {body : SFn} {w : Va} {ws : List Va} {env env1 env2 : En} {L L1 L2 : LH} {r : Out} (hg : g w env L = .ok env1 L1) (hb : body env1 L1 = .nx env2 L2) (k : forL g body ws env2 L2 = r) : forL g body (w :: ws) env L = r := by
  rw [forL, hg]
  simp only [hb]
  exact k
def Pre (L M : LH) : Prop := L.length ≤ M.length ∧ ∀ i, i < L.length → M[i]? = L[i]?
theorem Pre.refl {L : LH} : Pre L L := ⟨Nat.le_refl _, fun _ _ => rfl⟩
theorem Pre.trans {L M N : LH} (a : Pre L M) (b : Pre M N) : Pre L N := ⟨Nat.le_trans a.1 b.1, fun i h => (b.2 i (Nat.lt_of_lt_of_le h a.1)).trans (a.2 i h)⟩
theorem pre_app (L g : LH) : Pre L (L ++ g) := ⟨by simp, fun i h => List.getElem?_append_left h⟩
theorem Pre.fr {L M N : LH} {n p : Nat} (a : Pre L M) (f : Fr2 n p M N) (hn : L.length ≤ n) (hp : L.length ≤ p) : Pre L N := ⟨by rw [f.len]; exact a.1, fun i h => (f.out i (by omega) (by omega)).trans (a.2 i h)⟩
theorem Pre.set {L M : LH} (a : Pre L M) {i : Nat} (o : Option Ob) (h : L.length ≤ i) : Pre L (M.set i o) := ⟨by rw [List.length_set]; exact a.1, fun j hj => by rw [List.getElem?_set_ne (by omega)]; exact a.2 j hj⟩
theorem SAt.pre {n p : Nat} {W : Wb} {ps : List (List Rd)} {L M : LH} (h : SAt n p W ps L) (a : Pre L M) : SAt n p W ps M := ⟨(a.2 n h.ln).trans h.1, (a.2 p h.lp).trans h.2.1, h.2.2⟩
theorem outV_pre {L M : LH} (a : Pre L M) (w : Va) : outV L M (some w) = .ok w L := by
  obtain ⟨k, t⟩ := kept_fr (L := L) (L' := M) a.2
  simp only [outV]
  rw [if_pos k, t]
theorem op_make {W : Wb} (g : W.Good) {f : EF} {env : En} {L : LH} (h : f env L = .ok (.d W.d) L) : ∃ M, eMake "Site" F_Site_init (aCons f aNil) env L = .ok (.loc L.length) M ∧ SAt L.length (L.length + 1) W [] M ∧ Pre L M ∧ M.length = L.length + 2 :=
  ⟨_, make_ok g h, made_at W L, pre_app _ _, by simp⟩
theorem pg_ev {n p n2 p2 : Nat} {W W2 : Wb} {ps ps2 : List (List Rd)} {L : LH} {f g h : EF} {env : En} {b : Bool} (A : SAt n p W ps L) (B : SAt n2 p2 W2 ps2 L) (o : OkW W) (o2 : OkW W2) (hf : f env L = .ok (.loc n) L) (hg : g env L = .ok (.loc n2) L) (hh : h env L = .ok (.d (.bool b)) L) (hb : b = decide (W = W2)) : tNotF (tVal (eCall F_l_pair_good_v2 (aCons f (aCons g (aCons h aNil))))) env L = .ok false L := by
  subst hb
  rw [u_tNotF, u_tVal, u_eCall, av_cons hf (av_cons hg (av_cons hh av_nil))]
  simp only [Res.bind_ok, pair_good A B o o2, Bool.not_true]
theorem web_eq {n p : Nat} {W X : Wb} {ps : List (List Rd)} {f g : EF} {env : En} {L : LH} (A : SAt n p W ps L) (o : OkW W) (oX : OkW X) (hf : f env L = .ok (.loc n) L) (hg : g env L = .ok (.d X.d) L) : eOp opEq (eCallM "Site" "web" F_Site_web f aNil) g env L = .ok (.d (.bool (decide (W = X)))) L := by
  rw [eq_ev (web_ev hf A) hg (o.cmp oX), eqv_wb]
theorem web_ne {n p : Nat} {W : Wb} {ps : List (List Rd)} {f g : EF} {env : En} {L : LH} (A : SAt n p W ps L) (o : OkW W) (hf : f env L = .ok (.loc n) L) (hg : g env L = .ok (.d W.d) L) : tVal (eOp opNe (eCallM "Site" "web" F_Site_web f aNil) g) env L = .ok false L := ne_same (web_ev hf A) hg o.sd
theorem isnot_b {f : EF} {b c : Bool} {env : En} {L L1 : LH} (h : f env L = .ok (.d (.bool b)) L1) (e : b = c) : tVal (eOp opNotB f (eC (.bool c))) env L = .ok false L1 := by
  subst e
  rw [u_tVal, u_eOp, h]
  cases b <;> simp
theorem and_t' {s t : En → LH → Res Bool} {env : En} {L L1 : LH} {r : Res Bool} (h : s env L = .ok true L1) (k : t env L1 = r) : tAndF s t env L = r := by
  rw [u_tAndF, h]
  exact k
theorem and_f' {s t : En → LH → Res Bool} {env : En} {L L1 : LH} (h : s env L = .ok false L1) : tAndF s t env L = .ok false L1 := by
  rw [u_tAndF, h]
  rfl
section
variable {n p n2 p2 : Nat} {W V : Wb} {ps ps2 : List (List Rd)} {r : Rd} {k : Nat} {L : LH}
theorem turn_17 (A : SAt n p W [] L) (B : SAt n2 p2 V [] L) (d1 : n2 ≠ n) (d2 : n2 ≠ p) (d3 : p2 ≠ n) (d4 : p2 ≠ p) (o : OkW W) (o2 : OkW V) (hw : W.rs.length ≤ 100) (hr : RdOk W r) (hk : k < 3) (v0 v1 v4 v5 v6 v10 v11 : Option Va) :
    ∃ M y10 y11, b_l_good_v17_1 [v0, v1, some (.d r.d), some (.d (.int (k : Int))), v4, v5, v6, some (.loc n), some (.loc n2), some (.d V.d), v10, v11] L = .nx [v0, v1, some (.d r.d), some (.d (.int (k : Int))), v4, v5, v6, some (.loc n), some (.loc n2), some (.d V.d), y10, y11] M ∧ SAt n p W [] M ∧ SAt n2 p2 V [] M ∧ Fr2 n p L M := by
  obtain ⟨E, hE⟩ : ∃ E : Option Va → Option Va → En, E = fun x y => [v0, v1, some (.d r.d), some (.d (.int (k : Int))), v4, v5, v6, some (.loc n), some (.loc n2), some (.d V.d), x, y] := ⟨_, rfl⟩
  have e2 : ∀ x y M, eVar 2 (E x y) M = .ok (.d r.d) M := fun x y M => ev_v (by rw [hE]; rfl)
  have e3 : ∀ x y M, eVar 3 (E x y) M = .ok (.d (.int (k : Int))) M := fun x y M => ev_v (by rw [hE]; rfl)
  have e7 : ∀ x y M, eVar 7 (E x y) M = .ok (.loc n) M := fun x y M => ev_v (by rw [hE]; rfl)
  have e8 : ∀ x y M, eVar 8 (E x y) M = .ok (.loc n2) M := fun x y M => ev_v (by rw [hE]; rfl)
  have e9 : ∀ x y M, eVar 9 (E x y) M = .ok (.d V.d) M := fun x y M => ev_v (by rw [hE]; rfl)
  obtain ⟨D, hD⟩ : ∃ D : En, D = E (some (.d W.d)) (some (.d (.int (W.rs.length : Int)))) := ⟨_, rfl⟩
  have e10 : ∀ M, eVar 10 D M = .ok (.d W.d) M := fun M => ev_v (by rw [hD, hE]; rfl)
  have e11 : ∀ M, eVar 11 D M = .ok (.d (.int (W.rs.length : Int))) M := fun M => ev_v (by rw [hD, hE]; rfl)
  have s1 : (sPar 10 11 (aCons (eCallM "Site" "web" F_Site_web (eVar 7) aNil) (aCons (eLenO "Site" F_Site_len (aCons (eVar 7) aNil)) aNil))) (E v10 v11) L = .nx D L := by
    rw [par_ev (web_ev (e7 _ _ _) A) (len_site (e7 _ _ _) A (by omega)), hD, hE]
    rfl
  obtain ⟨M, rs2, q2, e, A2, f, oM, cs⟩ := deed_run (k := k) A o (by simp) hw hr hk
  have B2 := B.fr f d1 d2 d3 d4
  have s2 : (sExpr (eCall F_l_deed (aCons (eVar 7) (aCons (eVar 3) (aCons (eVar 2) aNil))))) D L = .nx D M := by
    rw [u_sExpr, u_eCall, av_cons (by rw [hD]; exact e7 _ _ _) (av_cons (by rw [hD]; exact e3 _ _ _) (av_cons (by rw [hD]; exact e2 _ _ _) av_nil))]
    simp only [Res.bind_ok, e]
    rfl
  have s3 : (sIf (tOrF (tVal (eOp opNe (eCallM "Site" "web" F_Site_web (eVar 8) aNil) (eVar 9))) (tNotF (tVal (eCall F_l_pair_good_v2 (aCons (eVar 7) (aCons (eVar 8) (aCons (eOp opEq (eCallM "Site" "web" F_Site_web (eVar 7) aNil) (eVar 9)) aNil))))))) (sRet (eC (.bool false))) sNil) D M = .nx D M := by
    rw [if_st (or_f (web_ne B2 o2 (by rw [hD]; exact e8 _ _ _) (by rw [hD]; exact e9 _ _ _)) (pg_ev A2 B2 oM o2 (by rw [hD]; exact e7 _ _ _) (by rw [hD]; exact e8 _ _ _) (web_eq A2 oM o2 (by rw [hD]; exact e7 _ _ _) (by rw [hD]; exact e9 _ _ _)) rfl)), u_sNil]
  have t0 : tVal (eOp opEq (eVar 3) (eC (.int 0))) D M = .ok (decide ((k : Int) = 0)) M := t_eqI (by rw [hD, hE]; rfl)
  have t1 : tVal (eOp opGt (eVar 11) (eC (.int 0))) D M = .ok (decide (0 < W.rs.length)) M := by
    rw [u_tVal, u_eOp, e11]
    simp
  have t2 : tOrF (tVal (eOp opEq (eVar 3) (eC (.int 0)))) (tVal (eOp opGt (eVar 11) (eC (.int 0)))) D M = .ok (decide (k = 0 ∨ 0 < W.rs.length)) M := by
    rw [u_tOrF, t0]
    simp only [Res.bind_ok, t1]
    by_cases h0 : k = 0
    · simp [h0]
    · have h0' : ¬ (k : Int) = 0 := by omega
      simp [h0, h0']
  have fin : ∃ N, SAt n p W [] N ∧ Fr2 n p M N ∧ (sIf (tOrF (tAndF (tOrF (tVal (eOp opEq (eVar 3) (eC (.int 0)))) (tVal (eOp opGt (eVar 11) (eC (.int 0))))) (tVal (eOp opNotB (eCallM "Site" "back" F_Site_back (eVar 7) aNil) (eC (.bool true))))) (tVal (eOp opNe (eCallM "Site" "web" F_Site_web (eVar 7) aNil) (eVar 10)))) (sRet (eC (.bool false))) sNil) D M = .nx D N := by
    by_cases c : k = 0 ∨ 0 < W.rs.length
    · rw [if_pos c] at cs
      rw [cs] at A2
      obtain ⟨N, eb, A3, f3⟩ := op_ev (m := "back") (f := eVar 7) (env := D) (by rw [hD]; exact e7 _ _ _) A2 (av_nil) (op_back (ps := []) A2)
      rw [put_put, put_self] at A3
      refine ⟨N, A3, f3, ?_⟩
      rw [if_st (or_f (and_t' (by rw [t2]; simp [c]) (isnot_b eb rfl)) (web_ne A3 o (by rw [hD]; exact e7 _ _ _) (e10 _))), u_sNil]
    · rw [if_neg c] at cs
      rw [cs.1, cs.2] at A2
      refine ⟨M, A2, Fr2.refl, ?_⟩
      rw [if_st (or_f (and_f' (by rw [t2]; simp [c])) (web_ne A2 o (by rw [hD]; exact e7 _ _ _) (e10 _))), u_sNil]
  obtain ⟨N, A3, f3, s4⟩ := fin
  refine ⟨N, some (.d W.d), some (.d (.int (W.rs.length : Int))), ?_, A3, B2.fr f3 d1 d2 d3 d4, f.trans f3⟩
  have a1 : [v0, v1, some (.d r.d), some (.d (.int (k : Int))), v4, v5, v6, some (.loc n), some (.loc n2), some (.d V.d), v10, v11] = E v10 v11 := by rw [hE]
  have a2 : [v0, v1, some (.d r.d), some (.d (.int (k : Int))), v4, v5, v6, some (.loc n), some (.loc n2), some (.d V.d), some (.d W.d), some (.d (.int (W.rs.length : Int)))] = D := by rw [hD, hE]
  rw [a1, a2]
  exact seq_nx s1 (seq_nx s2 (seq_nx s3 s4))
end
section
variable {W V : Wb} {r : Rd} {L : LH}
theorem turn_17_2 (o : OkW W) (o2 : OkW V) (hw : W.rs.length ≤ 100) (hv : V.rs.length ≤ 100) (hr : RdOk W r) (hr2 : RdOk V r) {k : Nat} (hk : k < 3) (v4 v5 v6 v7 v8 v9 v10 v11 : Option Va) :
    ∃ M y4 y5 y6 y7 y8 y9 y10 y11, b_l_good_v17_2 [some (.d W.d), some (.d V.d), some (.d r.d), some (.d (.int (k : Int))), v4, v5, v6, v7, v8, v9, v10, v11] L = .nx [some (.d W.d), some (.d V.d), some (.d r.d), some (.d (.int (k : Int))), y4, y5, y6, y7, y8, y9, y10, y11] M ∧ Pre L M := by
  obtain ⟨M1, m1, A1, p1, l1⟩ := op_make (f := eVar 0) (env := [some (.d W.d), some (.d V.d), some (.d r.d), some (.d (.int (k : Int))), v4, v5, v6, v7, v8, v9, v10, v11]) (L := L) o.gd (ev_v rfl)
  obtain ⟨M2, m2, B2, p2, l2⟩ := op_make (f := eVar 1) (env := [some (.d W.d), some (.d V.d), some (.d r.d), some (.d (.int (k : Int))), v4, v5, v6, v7, v8, v9, v10, v11]) (L := M1) o2.gd (ev_v rfl)
  have A2 := A1.pre p2
  obtain ⟨n, hn⟩ : ∃ n, n = L.length := ⟨_, rfl⟩
  obtain ⟨n2, hn2⟩ : ∃ n, n = M1.length := ⟨_, rfl⟩
  rw [← hn] at m1 A2
  rw [← hn2] at m2 B2
  have s1 := par_ev (i := 5) (j := 6) m1 m2
  obtain ⟨due, hdue⟩ : ∃ d, d = decide (W = V) := ⟨_, rfl⟩
  obtain ⟨E, hE⟩ : ∃ E : Option Va → Option Va → Option Va → Option Va → Option Va → En, E = fun x7 x8 x9 x10 x11 => [some (.d W.d), some (.d V.d), some (.d r.d), some (.d (.int (k : Int))), some (.d (.bool due)), some (.loc n), some (.loc n2), x7, x8, x9, x10, x11] := ⟨_, rfl⟩
  have e0 : ∀ x7 x8 x9 x10 x11 M, eVar 0 (E x7 x8 x9 x10 x11) M = .ok (.d W.d) M := fun _ _ _ _ _ M => ev_v (by rw [hE]; rfl)
  have e1 : ∀ x7 x8 x9 x10 x11 M, eVar 1 (E x7 x8 x9 x10 x11) M = .ok (.d V.d) M := fun _ _ _ _ _ M => ev_v (by rw [hE]; rfl)
  have e4 : ∀ x7 x8 x9 x10 x11 M, eVar 4 (E x7 x8 x9 x10 x11) M = .ok (.d (.bool due)) M := fun _ _ _ _ _ M => ev_v (by rw [hE]; rfl)
  have e5 : ∀ x7 x8 x9 x10 x11 M, eVar 5 (E x7 x8 x9 x10 x11) M = .ok (.loc n) M := fun _ _ _ _ _ M => ev_v (by rw [hE]; rfl)
  have e6 : ∀ x7 x8 x9 x10 x11 M, eVar 6 (E x7 x8 x9 x10 x11) M = .ok (.loc n2) M := fun _ _ _ _ _ M => ev_v (by rw [hE]; rfl)
  have s2 : (sSet 4 (eOp opEq (eVar 0) (eVar 1))) [some (.d W.d), some (.d V.d), some (.d r.d), some (.d (.int (k : Int))), v4, some (.loc n), some (.loc n2), v7, v8, v9, v10, v11] M2 = .nx (E v7 v8 v9 v10 v11) M2 := by
    rw [set_st (eq_ev (ev_v rfl) (ev_v rfl) (o.cmp o2)), eqv_wb, hE, hdue]
    rfl
  have s3 : (sIf (tNotF (tVal (eCall F_l_pair_good_v2 (aCons (eVar 5) (aCons (eVar 6) (aCons (eVar 4) aNil)))))) (sRet (eC (.bool false))) sNil) (E v7 v8 v9 v10 v11) M2 = .nx (E v7 v8 v9 v10 v11) M2 := by
    rw [if_f (pg_ev A2 B2 o o2 (e5 _ _ _ _ _ _) (e6 _ _ _ _ _ _) (e4 _ _ _ _ _ _) hdue), u_sNil]
  -- the walk
  have tp : ∀ {f g h : EF} {a b : Nat} {x : PyData} {env : En} {M : LH}, f env M = .ok (.loc a) M → g env M = .ok (.loc b) M → h env M = .ok (.d x) M → eTup (aCons f (aCons g (aCons h aNil))) env M = .ok (.tup [.loc a, .loc b, .d x]) M := by
    intro f g h a b x env M hf hg hh
    rw [u_eTup, av_cons hf (av_cons hg (av_cons hh av_nil))]
    simp
    rfl
  have ws : (aCons (eTup (aCons (eVar 5) (aCons (eVar 6) (aCons (eVar 1) aNil)))) (aCons (eTup (aCons (eVar 6) (aCons (eVar 5) (aCons (eVar 0) aNil)))) aNil)) (E v7 v8 v9 v10 v11) M2 = .ok [.tup [.loc n, .loc n2, .d V.d], .tup [.loc n2, .loc n, .d W.d]] M2 :=
    av_cons (tp (e5 _ _ _ _ _ _) (e6 _ _ _ _ _ _) (e1 _ _ _ _ _ _)) (av_cons (tp (e6 _ _ _ _ _ _) (e5 _ _ _ _ _ _) (e0 _ _ _ _ _ _)) av_nil)
  have q3 : Pre M2 (M2 ++ [none]) := pre_app _ _
  have A3 := A2.pre q3
  have B3 := B2.pre q3
  have dn : n2 = n + 2 := by omega
  have tg : ∀ (a b : Nat) (x : PyData) (x7 x8 x9 x10 x11 : Option Va) (M : LH), (tTupT 3 (tgCons (tN 7) (tgCons (tN 8) (tgCons (tN 9) tgNil)))) (.tup [.loc a, .loc b, .d x]) (E x7 x8 x9 x10 x11) M = .ok (E (some (.loc a)) (some (.loc b)) (some (.d x)) x10 x11) M := by
    intro a b x x7 x8 x9 x10 x11 M
    rw [hE]
    simp [Va.seq]
  obtain ⟨M4, z10, z11, t1, A4, B4, f4⟩ := turn_17 (r := r) (k := k) A3 B3 (by omega) (by omega) (by omega) (by omega) o o2 hw hr hk (some (.d W.d)) (some (.d V.d)) (some (.d (.bool due))) (some (.loc n)) (some (.loc n2)) v10 v11
  obtain ⟨M5, z10', z11', t2, B5, A5, f5⟩ := turn_17 (r := r) (k := k) B4 A4 (by omega) (by omega) (by omega) (by omega) o2 o hv hr2 hk (some (.d W.d)) (some (.d V.d)) (some (.d (.bool due))) (some (.loc n)) (some (.loc n2)) z10 z11
  have lp : forL (tTupT 3 (tgCons (tN 7) (tgCons (tN 8) (tgCons (tN 9) tgNil)))) b_l_good_v17_1 [.tup [.loc n, .loc n2, .d V.d], .tup [.loc n2, .loc n, .d W.d]] (E v7 v8 v9 v10 v11) (M2 ++ [none]) = .nx (E (some (.loc n2)) (some (.loc n)) (some (.d W.d)) z10' z11') M5 := by
    refine forL_step (tg _ _ _ _ _ _ _ _ _) (env2 := E (some (.loc n)) (some (.loc n2)) (some (.d V.d)) z10 z11) (L2 := M4) ?_ (forL_step (tg _ _ _ _ _ _ _ _ _) (env2 := E (some (.loc n2)) (some (.loc n)) (some (.d W.d)) z10' z11') (L2 := M5) ?_ rfl)
    · rw [hE]
      exact t1
    · rw [hE]
      exact t2
  have s4 := for_newl ws (by simp) lp
  obtain ⟨M6, hM6⟩ : ∃ M, M = M5.set M2.length (some (.lst [.tup [.loc n, .loc n2, .d V.d], .tup [.loc n2, .loc n, .d W.d]])) := ⟨_, rfl⟩
  rw [← hM6] at s4
  have A6 : SAt n (n + 1) W [] M6 := by rw [hM6]; exact A5.lock _ (by omega) (by omega)
  have B6 : SAt n2 (n2 + 1) V [] M6 := by rw [hM6]; exact B5.lock _ (by omega) (by omega)
  have s5 : (sIf (tOrF (tNotF (tVal (eCall F_l_pair_good_v2 (aCons (eVar 5) (aCons (eVar 6) (aCons (eVar 4) aNil)))))) (tOrF (tVal (eOp opNotB (eCallM "Site" "back" F_Site_back (eVar 5) aNil) (eC (.bool false)))) (tVal (eOp opNotB (eCallM "Site" "back" F_Site_back (eVar 6) aNil) (eC (.bool false)))))) (sRet (eC (.bool false))) sNil) (E (some (.loc n2)) (some (.loc n)) (some (.d W.d)) z10' z11') M6 = .nx (E (some (.loc n2)) (some (.loc n)) (some (.d W.d)) z10' z11') M6 := by
    have b1 : eCallM "Site" "back" F_Site_back (eVar 5) aNil (E (some (.loc n2)) (some (.loc n)) (some (.d W.d)) z10' z11') M6 = .ok (.d (.bool false)) M6 := by
      rw [cm_ev (e5 _ _ _ _ _ _) A6 av_nil, site_back0 A6]
    have b2 : eCallM "Site" "back" F_Site_back (eVar 6) aNil (E (some (.loc n2)) (some (.loc n)) (some (.d W.d)) z10' z11') M6 = .ok (.d (.bool false)) M6 := by
      rw [cm_ev (e6 _ _ _ _ _ _) B6 av_nil, site_back0 B6]
    rw [if_f (or_f (pg_ev A6 B6 o o2 (e5 _ _ _ _ _ _) (e6 _ _ _ _ _ _) (e4 _ _ _ _ _ _) hdue) (or_f (isnot_b b1 rfl) (isnot_b b2 rfl))), u_sNil]
  refine ⟨M6, some (.d (.bool due)), some (.loc n), some (.loc n2), some (.loc n2), some (.loc n), some (.d W.d), z10', z11', ?_, ?_⟩
  · have a2 : [some (.d W.d), some (.d V.d), some (.d r.d), some (.d (.int (k : Int))), some (.d (.bool due)), some (.loc n), some (.loc n2), some (.loc n2), some (.loc n), some (.d W.d), z10', z11'] = E (some (.loc n2)) (some (.loc n)) (some (.d W.d)) z10' z11' := by rw [hE]
    rw [a2]
    exact seq_nx s1 (seq_nx s2 (seq_nx s3 (seq_nx s4 s5)))
  · rw [hM6]
    have c : Pre L (M2 ++ [none]) := (p1.trans p2).trans q3
    exact ((c.fr f4 (by omega) (by omega)).fr f5 (by omega) (by omega)).set _ (by omega)
theorem good17_run (o : OkW W) (o2 : OkW V) (hw : W.rs.length ≤ 100) (hv : V.rs.length ≤ 100) (hr : RdOk W r) (hr2 : RdOk V r) : F_l_good_v17 [.d W.d, .d V.d, .d r.d] L = .ok (.d (.bool true)) L := by
  have loop := forL_inv (g := tN 3) (body := b_l_good_v17_2) (I := fun ws env M => (∃ a3 a4 a5 a6 a7 a8 a9 a10 a11, env = [some (.d W.d), some (.d V.d), some (.d r.d), a3, a4, a5, a6, a7, a8, a9, a10, a11]) ∧ Pre L M ∧ ∀ w ∈ ws, ∃ j : Nat, w = Va.d (.int j) ∧ j < 3) (rngV 0 3) [some (.d W.d), some (.d V.d), some (.d r.d), none, none, none, none, none, none, none, none, none] L
    ⟨⟨_, _, _, _, _, _, _, _, _, rfl⟩, Pre.refl, fun w hw => by
      simp only [rngV, List.mem_map, List.mem_range] at hw
      obtain ⟨j, hj, rfl⟩ := hw
      exact ⟨j, by simp, by omega⟩⟩ ?_
  · obtain ⟨env', L', e, _, pr, _⟩ := loop
    have src : srcR1 (aCons (eC (.int 3)) aNil) [some (.d W.d), some (.d V.d), some (.d r.d), none, none, none, none, none, none, none, none, none] L = .ok (rngV 0 3, none) L := by
      rw [u_srcR1, al_cons (ev_c (x := .int 3)) al_nil]
      rfl
    refine fn_out (L' := L') (w := .d (.bool true)) rfl ?_ (settle_d _ _ _ _) (outV_pre pr _)
    show b_l_good_v17 [some (.d W.d), some (.d V.d), some (.d r.d), none, none, none, none, none, none, none, none, none] L = _
    refine seq_nx (for_nx src e) ?_
    rw [u_sRet, ev_c]
    rfl
  · rintro w r' env M ⟨⟨a3, a4, a5, a6, a7, a8, a9, a10, a11, rfl⟩, pr, hw'⟩
    obtain ⟨j, rfl, hj⟩ := hw' w List.mem_cons_self
    obtain ⟨M', y4, y5, y6, y7, y8, y9, y10, y11, t, q⟩ := turn_17_2 (L := M) o o2 hw hv hr hr2 hj a4 a5 a6 a7 a8 a9 a10 a11
    exact ⟨_, _, rfl, _, M', .inl t, ⟨_, _, _, _, _, _, _, _, _, rfl⟩, pr.trans q, fun w h => hw' w (List.mem_cons_of_mem _ h)⟩
end
end L2.HW
namespace L2.HW
open PySem PySem.Spec PyProof.Rows L2.HW.G PySem.NumText TL
abbrev KT (rs : List Rd) : PyData := .tuple (rs.map Rd.d)
section
variable {f g : EF} {env : En} {L : LH}
theorem add_kt {a c : List Rd} (h : f env L = .ok (.d (KT a)) L) (hg : g env L = .ok (.d (KT c)) L) (hz : a.length + c.length ≤ 10000) : eOp opAdd f g env L = .ok (.d (KT (a ++ c))) L := by
  have zs := sizeLine_eq
  rw [u_eOp, h]
  simp only [Res.bind_ok, hg, u_opAdd]
  rw [if_pos (by simp; omega)]
  unfold KT
  rw [List.map_append]
theorem tup_kt {fs : En → LH → Res (List Va)} {a : List Rd} (h : fs env L = .ok ((a.map Rd.d).map Va.d) L) (hz : a.length ≤ 10000) : eTup fs env L = .ok (.d (KT a)) L := tup_al h (by simp; omega)
theorem sl1_kt {a : Rd} {t : List Rd} (h : f env L = .ok (.d (KT (a :: t))) L) : eSl f (pSome (eC (.int 1))) pNone env L = .ok (.d (KT t)) L := by
  have so : pSome (eC (.int 1)) env L = .ok (some ((1 : Nat) : Int)) L := by simp
  have sn : pNone env L = .ok (none : Option Int) L := by simp
  have c : cutA ((a :: t).map Rd.d) (some ((1 : Nat) : Int)) none = t.map Rd.d := by rw [cut_from]; rfl
  rw [u_eSl, h]
  simp only [Res.bind_ok, so, sn, u_opSl]
  rw [c]
theorem ix0_kt {a : Rd} {t : List Rd} (h : f env L = .ok (.d (KT (a :: t))) L) : eOp opIx f (eC (.int 0)) env L = .ok (.d a.d) L := by
  have dg : Va.dget L (.d (KT (a :: t))) (.d (.int 0)) = none := rfl
  have sq : (Va.d (KT (a :: t))).seq L = some (((a :: t).map Rd.d).map Va.d) := rfl
  rw [u_eOp, h]
  simp only [Res.bind_ok, ev_c, u_opIx]
  simp [dg, sq, atI, ixN]
theorem len_kt {a : List Rd} (h : f env L = .ok (.d (KT a)) L) : eCallB cLen (aCons f aNil) env L = .ok (.d (.int (a.length : Int))) L := by
  rw [u_eCallB, al_cons h al_nil]
  simp only [Res.bind_ok, List.map_cons, List.map_nil, u_cLen, Va.seq, List.length_map]
theorem hd_kt {a : Rd} {t : List Rd} {l w : Int} (h : f env L = .ok (.d (KT (a :: t))) L) (hz : t.length ≤ 5000) : eOp opAdd (eTup (aCons (eTup (aCons (eOp opIx (eOp opIx f (eC (.int 0))) (eC (.int 0))) (aCons (eOp opIx (eOp opIx f (eC (.int 0))) (eC (.int 1))) (aCons (eC (.int l)) (aCons (eC (.int w)) aNil))))) aNil)) (eSl f (pSome (eC (.int 1))) pNone) env L = .ok (.d (KT (⟨a.u, a.v, l, w⟩ :: t))) L := by
  obtain ⟨x0, x1, _, _⟩ := ixR (ix0_kt h)
  exact add_kt (a := [⟨a.u, a.v, l, w⟩]) (tup_kt (a := [⟨a.u, a.v, l, w⟩]) (al_cons (tup_al (al_cons x0 (al_cons x1 (al_cons (ev_c (x := .int l)) (al_cons (ev_c (x := .int w)) al_nil)))) (by simp)) al_nil) (by simp)) (sl1_kt h) (by simp; omega)
end
theorem OkW.kt {W : Wb} (o : OkW W) : SmD (KT W.rs) := by
  refine ne_self ?_ ?_
  · have := fine_wb o.gd o.sm
    simp only [Wb.d, fine, fineAll, Bool.and_eq_true] at this ⊢
    simp [this]
  · have := depth_wb W
    simp only [Wb.d, PyData.depth, PyData.depthAll] at this ⊢
    omega
theorem rs_ne {n p : Nat} {W : Wb} {ps : List (List Rd)} {f g : EF} {env : En} {L : LH} (A : SAt n p W ps L) (o : OkW W) (hf : f env L = .ok (.loc n) L) (hg : g env L = .ok (.d (KT W.rs)) L) : tVal (eOp opNe (eOp opIx (eCallM "Site" "web" F_Site_web f aNil) (eC (.int 3))) g) env L = .ok false L := ne_same (ix3 (web_ev hf A)) hg o.kt
theorem aug_f2 {n p n2 p2 : Nat} {W W2 : Wb} {ps ps2 : List (List Rd)} {f : EF} {env : En} {i : Nat} {L : LH} (he : env[i]? = some (some (.loc n))) (hf : f env L = .ok (.loc n2) L) (h : SAt n p W ps L) (h2 : SAt n2 p2 W2 ps2 L) (e1 : W.m = W2.m) (e2 : W.b = W2.b) (e3 : W.e = W2.e) (hz : ps.length ≤ 1000) (hw : W.rs.length ≤ 10000) (hw2 : W2.rs.length ≤ 10000) : ∃ M, sAugO "Site" F_Site_ior i f env L = .nx env M ∧ SAt n p (W.put (W.rs ++ W2.rs)) (ps ++ [W.rs]) M ∧ Fr2 n p L M :=
  ⟨_, aug_ok he hf h (ior_ok h h2 e1 e2 e3 hz hw hw2), h.st _ _, fr_st _ _⟩
theorem sm_3t : SmD (.list [.bool true, .bool true, .bool true]) := ⟨cmpOk_of (by decide +kernel) (by decide +kernel), by decide +kernel⟩
theorem sm_7t : SmD (.list [.bool true, .bool true, .bool true, .bool true, .bool true, .bool true, .bool true, .bool false]) := ⟨cmpOk_of (by decide +kernel) (by decide +kernel), by decide +kernel⟩
theorem mul_b (b : Bool) (k : Nat) (hk : k ≤ 100) {env : En} {L : LH} : eOp opMul (eDat (fLst (aCons (eC (.bool b)) aNil))) (eC (.int (k : Int))) env L = .ok (.d (.list (rep k [PyData.bool b]))) L := by
  have zs := sizeLine_eq
  rw [u_eOp, lst_al (al_cons ev_c al_nil) (by simp)]
  simp only [Res.bind_ok, ev_c, u_opMul, items_list, List.map_cons, List.map_nil, List.length_cons, List.length_nil]
  rw [if_pos (by omega)]
  rfl
theorem mul_t3 {env : En} {L : LH} : eOp opMul (eDat (fLst (aCons (eC (.bool true)) aNil))) (eC (.int 3)) env L = .ok (.d (.list [.bool true, .bool true, .bool true])) L := mul_b true 3 (by omega)
theorem mul_t7 {env : En} {L : LH} : eOp opMul (eDat (fLst (aCons (eC (.bool true)) aNil))) (eC (.int 7)) env L = .ok (.d (.list [.bool true, .bool true, .bool true, .bool true, .bool true, .bool true, .bool true])) L := mul_b true 7 (by omega)
end L2.HW
namespace L2.HW
open PySem PySem.Spec PyProof.Rows L2.HW.G PySem.NumText TL
theorem joined_good_run {W V : Wb} {r : Rd} {L : LH} (o : OkW W) (o2 : OkW V) (hw : W.rs.length ≤ 100) (hv : V.rs.length ≤ 100) (hr : RdOk W r) (hr2 : RdOk V r) : F_l_joined_good [.d W.d, .d V.d, .d r.d] L = .ok (.d (.bool true)) L := by
  obtain ⟨E, hE⟩ : ∃ E : Option Va → Option Va → Option Va → Option Va → Option Va → En, E = fun x3 x4 x5 x6 x7 => [some (.d W.d), some (.d V.d), some (.d r.d), x3, x4, x5, x6, x7, none] := ⟨_, rfl⟩
  have e0 : ∀ x3 x4 x5 x6 x7 M, eVar 0 (E x3 x4 x5 x6 x7) M = .ok (.d W.d) M := fun _ _ _ _ _ M => ev_v (by rw [hE]; rfl)
  have e1 : ∀ x3 x4 x5 x6 x7 M, eVar 1 (E x3 x4 x5 x6 x7) M = .ok (.d V.d) M := fun _ _ _ _ _ M => ev_v (by rw [hE]; rfl)
  have e2 : ∀ x3 x4 x5 x6 x7 M, eVar 2 (E x3 x4 x5 x6 x7) M = .ok (.d r.d) M := fun _ _ _ _ _ M => ev_v (by rw [hE]; rfl)
  have e3 : ∀ (x3 : Va) x4 x5 x6 x7 M, eVar 3 (E (some x3) x4 x5 x6 x7) M = .ok x3 M := fun _ _ _ _ _ M => ev_v (by rw [hE]; rfl)
  have e4 : ∀ x3 (x4 : Va) x5 x6 x7 M, eVar 4 (E x3 (some x4) x5 x6 x7) M = .ok x4 M := fun _ _ _ _ _ M => ev_v (by rw [hE]; rfl)
  have e5 : ∀ x3 x4 (x5 : Va) x6 x7 M, eVar 5 (E x3 x4 (some x5) x6 x7) M = .ok x5 M := fun _ _ _ _ _ M => ev_v (by rw [hE]; rfl)
  have e6 : ∀ x3 x4 x5 (x6 : Va) x7 M, eVar 6 (E x3 x4 x5 (some x6) x7) M = .ok x6 M := fun _ _ _ _ _ M => ev_v (by rw [hE]; rfl)
  have e7 : ∀ x3 x4 x5 x6 (x7 : Va) M, eVar 7 (E x3 x4 x5 x6 (some x7)) M = .ok x7 M := fun _ _ _ _ _ M => ev_v (by rw [hE]; rfl)
  have z5 : ∀ x3 x4 x5 x6 x7 y, (E x3 x4 x5 x6 x7).set 5 y = E x3 x4 y x6 x7 := fun _ _ _ _ _ _ => by rw [hE]; rfl
  have z6 : ∀ x3 x4 x5 x6 x7 y, (E x3 x4 x5 x6 x7).set 6 y = E x3 x4 x5 y x7 := fun _ _ _ _ _ _ => by rw [hE]; rfl
  have z7 : ∀ x3 x4 x5 x6 x7 y, (E x3 x4 x5 x6 x7).set 7 y = E x3 x4 x5 x6 y := fun _ _ _ _ _ _ => by rw [hE]; rfl
  have tt : ∀ (a b : Nat) (M : LH), (tTupT 2 (tgCons (tN 3) (tgCons (tN 4) tgNil))) (.tup [.loc a, .loc b]) (E none none none none none) M = .ok (E (some (.loc a)) (some (.loc b)) none none none) M := fun a b M => by
    rw [hE]
    simp [Va.seq]
  obtain ⟨M1, m1, A1, p1, l1⟩ := op_make (f := eVar 0) (env := E none none none none none) (L := L) o.gd (e0 _ _ _ _ _ _)
  obtain ⟨M2, m2, B2, p2, l2⟩ := op_make (f := eVar 1) (env := E none none none none none) (L := M1) o2.gd (e1 _ _ _ _ _ _)
  have A2 := A1.pre p2
  obtain ⟨n, hn⟩ : ∃ n, n = L.length := ⟨_, rfl⟩
  obtain ⟨q, hq⟩ : ∃ n, n = M1.length := ⟨_, rfl⟩
  rw [← hn] at m1 A2
  rw [← hq] at m2 B2
  have dn : q = n + 2 := by omega
  have P2 : Pre L M2 := p1.trans p2
  -- names
  obtain ⟨G, hG⟩ : ∃ G : Option Va → Option Va → Option Va → En, G = fun x5 x6 x7 => E (some (.loc n)) (some (.loc q)) x5 x6 x7 := ⟨_, rfl⟩
  have g0 : ∀ x5 x6 x7 M, eVar 0 (G x5 x6 x7) M = .ok (.d W.d) M := fun _ _ _ M => by rw [hG]; exact e0 _ _ _ _ _ _
  have g1 : ∀ x5 x6 x7 M, eVar 1 (G x5 x6 x7) M = .ok (.d V.d) M := fun _ _ _ M => by rw [hG]; exact e1 _ _ _ _ _ _
  have g2 : ∀ x5 x6 x7 M, eVar 2 (G x5 x6 x7) M = .ok (.d r.d) M := fun _ _ _ M => by rw [hG]; exact e2 _ _ _ _ _ _
  have g3 : ∀ x5 x6 x7 M, eVar 3 (G x5 x6 x7) M = .ok (.loc n) M := fun _ _ _ M => by rw [hG]; exact e3 _ _ _ _ _ _
  have g4 : ∀ x5 x6 x7 M, eVar 4 (G x5 x6 x7) M = .ok (.loc q) M := fun _ _ _ M => by rw [hG]; exact e4 _ _ _ _ _ _
  have g5 : ∀ (x5 : Va) x6 x7 M, eVar 5 (G (some x5) x6 x7) M = .ok x5 M := fun _ _ _ M => by rw [hG]; exact e5 _ _ _ _ _ _
  have g6 : ∀ x5 (x6 : Va) x7 M, eVar 6 (G x5 (some x6) x7) M = .ok x6 M := fun _ _ _ M => by rw [hG]; exact e6 _ _ _ _ _ _
  have g7 : ∀ x5 x6 (x7 : Va) M, eVar 7 (G x5 x6 (some x7)) M = .ok x7 M := fun _ _ _ M => by rw [hG]; exact e7 _ _ _ _ _ _
  have y5 : ∀ x5 x6 x7 y, (G x5 x6 x7).set 5 y = G y x6 x7 := fun _ _ _ _ => by rw [hG]; exact z5 _ _ _ _ _ _
  have y6 : ∀ x5 x6 x7 y, (G x5 x6 x7).set 6 y = G x5 y x7 := fun _ _ _ _ => by rw [hG]; exact z6 _ _ _ _ _ _
  have y7 : ∀ x5 x6 x7 y, (G x5 x6 x7).set 7 y = G x5 x6 y := fun _ _ _ _ => by rw [hG]; exact z7 _ _ _ _ _ _
  have s1 : (sAsg (eTup (aCons (eMake "Site" F_Site_init (aCons (eVar 0) aNil)) (aCons (eMake "Site" F_Site_init (aCons (eVar 1) aNil)) aNil))) (tTupT 2 (tgCons (tN 3) (tgCons (tN 4) tgNil)))) (E none none none none none) L = .nx (G none none none) M2 := by
    have tp : eTup (aCons (eMake "Site" F_Site_init (aCons (eVar 0) aNil)) (aCons (eMake "Site" F_Site_init (aCons (eVar 1) aNil)) aNil)) (E none none none none none) L = .ok (.tup [.loc n, .loc q]) M2 := by
      rw [u_eTup, av_cons m1 (av_cons m2 av_nil)]
      simp
      rfl
    rw [u_sAsg, tp]
    simp only [then_ok, tt]
    rw [hG]
  have st : [some (.d W.d), some (.d V.d), some (.d r.d), none, none, none, none, none, none] = E none none none none none := by rw [hE]
  have nt : tVal (eOp opNe (eSl (eVar 0) pNone (pSome (eC (.int 3)))) (eSl (eVar 1) pNone (pSome (eC (.int 3))))) (G none none none) M2 = .ok (!(decide (W.m = V.m) && (decide (W.b = V.b) && decide (W.e = V.e)))) M2 := by
    rw [u_tVal, u_eOp, take3 (g0 _ _ _ _)]
    simp only [Res.bind_ok, take3 (g1 _ _ _ _), u_opNe, data_d, ok3, if_true, eqv3]
  rcases Classical.em (¬ (W.m = V.m ∧ W.b = V.b ∧ W.e = V.e)) with same | same
  · have ht : (!(decide (W.m = V.m) && (decide (W.b = V.b) && decide (W.e = V.e)))) = true := by
      rw [← Bool.decide_and, ← Bool.decide_and, decide_eq_false same]
      rfl
    refine fn_out (L' := M2) (w := .d (.bool true)) rfl ?_ (settle_d _ _ _ _) (outV_pre P2 _)
    show b_l_joined_good [some (.d W.d), some (.d V.d), some (.d r.d), none, none, none, none, none, none] L = _
    rw [st]
    refine seq_nx s1 (seq_rt ?_)
    rw [if_t (by rw [nt, ht]), u_sRet, ev_c]
    rfl
  obtain ⟨em, eb, ee⟩ := Classical.not_not.mp same
  have hf : (!(decide (W.m = V.m) && (decide (W.b = V.b) && decide (W.e = V.e)))) = false := by simp [em, eb, ee]
  have s2 : (sIf (tVal (eOp opNe (eSl (eVar 0) pNone (pSome (eC (.int 3)))) (eSl (eVar 1) pNone (pSome (eC (.int 3)))))) (sRet (eC (.bool true))) sNil) (G none none none) M2 = .nx (G none none none) M2 := by
    rw [if_f (by rw [nt, hf]), u_sNil]
  obtain ⟨a, t, hat⟩ : ∃ a t, V.rs ++ [r] = a :: t := by
    cases e : V.rs with
    | nil => exact ⟨r, [], rfl⟩
    | cons x y => exact ⟨x, y ++ [r], rfl⟩
  have tl : t.length = V.rs.length := by
    have := congrArg List.length hat
    simp at this
    omega
  have okv : ∀ x ∈ V.rs ++ [r], RdOk V x := fun x hx => by
    rcases List.mem_append.mp hx with hx | hx
    · exact o2.mem x hx
    · simp only [List.mem_cons, List.not_mem_nil, or_false] at hx
      subst hx
      exact hr2
  have oka : RdOk V a := okv a (by rw [hat]; simp)
  have okt : ∀ x ∈ t, RdOk V x := fun x hx => okv x (by rw [hat]; simp [hx])
  obtain ⟨h6, hh6⟩ : ∃ b : Rd, b = ⟨a.u, a.v, 6, 7⟩ := ⟨_, rfl⟩
  obtain ⟨h8, hh8⟩ : ∃ b : Rd, b = ⟨a.u, a.v, 8, 9⟩ := ⟨_, rfl⟩
  obtain ⟨h5, hh5⟩ : ∃ b : Rd, b = ⟨a.u, a.v, 5, 5⟩ := ⟨_, rfl⟩
  have ok6 : RdOk V h6 := by rw [hh6]; exact rdOk_lw oka (by omega) (by omega) (by omega) (by omega)
  have ok8 : RdOk V h8 := by rw [hh8]; exact rdOk_lw oka (by omega) (by omega) (by omega) (by omega)
  have ok5 : RdOk V h5 := by rw [hh5]; exact rdOk_lw oka (by omega) (by omega) (by omega) (by omega)
  have vw : ∀ {x : Rd}, RdOk V x → RdOk W x := fun h => by
    unfold RdOk
    rw [em, ee]
    exact h
  have okK : ∀ x ∈ h6 :: t, RdOk V x := fun x hx => by
    rcases List.mem_cons.mp hx with rfl | hx
    · exact ok6
    · exact okt x hx
  have ok8t : ∀ x ∈ h8 :: t, RdOk V x := fun x hx => by
    rcases List.mem_cons.mp hx with rfl | hx
    · exact ok8
    · exact okt x hx
  have ap : ∀ {l : List Rd}, (∀ x ∈ l, RdOk V x) → ∀ x ∈ l ++ [r], RdOk V x := fun h x hx => by
    rcases List.mem_append.mp hx with hx | hx
    · exact h x hx
    · simp only [List.mem_cons, List.not_mem_nil, or_false] at hx
      subst hx
      exact hr2
  have wap : ∀ {l : List Rd}, (∀ x ∈ l, RdOk V x) → ∀ x ∈ W.rs ++ l, RdOk W x := fun h x hx => by
    rcases List.mem_append.mp hx with hx | hx
    · exact o.mem x hx
    · exact vw (h x hx)
  -- kept
  have s3 : (sSet 5 (eOp opAdd (eOp opIx (eVar 1) (eC (.int 3))) (eTup (aCons (eVar 2) aNil)))) (G none none none) M2 = .nx (G (some (.d (KT (a :: t)))) none none) M2 := by
    rw [set_st (add_kt (a := V.rs) (c := [r]) (ix3 (g1 _ _ _ _)) (tup_kt (a := [r]) (al_cons (g2 _ _ _ _) al_nil) (by simp)) (by simp; omega)), y5, hat]
  have s4 : (sSet 5 (eOp opAdd (eTup (aCons (eTup (aCons (eOp opIx (eOp opIx (eVar 5) (eC (.int 0))) (eC (.int 0))) (aCons (eOp opIx (eOp opIx (eVar 5) (eC (.int 0))) (eC (.int 1))) (aCons (eC (.int 6)) (aCons (eC (.int 7)) aNil))))) aNil)) (eSl (eVar 5) (pSome (eC (.int 1))) pNone))) (G (some (.d (KT (a :: t)))) none none) M2 = .nx (G (some (.d (KT (h6 :: t)))) none none) M2 := by
    rw [set_st (hd_kt (l := 6) (w := 7) (g5 _ _ _ _) (by omega)), y5, hh6]
  obtain ⟨K, hK⟩ : ∃ K, K = h6 :: t := ⟨_, rfl⟩
  have lK : K.length = V.rs.length + 1 := by rw [hK]; simp [tl]
  rw [← hK] at s4 okK
  -- the other: put, turned, put, dropped
  obtain ⟨M3, s5, B3, f3⟩ := op_ex (m := "put") (f := eVar 4) (env := G (some (.d (KT K))) none none) (g4 _ _ _ _) B2 (al_road (g2 _ _ _ _)) (op_put B2 (by simp) (by omega) (roadB_good hr2.1))
  have A3 := A2.fr f3 (by omega) (by omega) (by omega) (by omega)
  rw [hat] at B3
  have tr1 : ∀ (b : Rd) (rs : List Rd) (y z : Int), (V.put (b :: rs)).rs.take 0 ++ ⟨((V.put (b :: rs)).rs[0]'(by simp)).u, ((V.put (b :: rs)).rs[0]'(by simp)).v, y, z⟩ :: (V.put (b :: rs)).rs.drop (0 + 1) = ⟨b.u, b.v, y, z⟩ :: rs := fun b rs y z => by simp
  obtain ⟨M4, s6, B4, f4⟩ := op_ex (m := "turn") (f := eVar 4) (env := G (some (.d (KT K))) none none) (g4 _ _ _ _) B3 (al_cons (ev_c (x := .int ((0 : Nat) : Int))) (al_cons (ev_c (x := .int 6)) (al_cons (ev_c (x := .int 7)) al_nil))) (op_turn (i := 0) B3 (by simp) (by simp; omega) (by simp) (by
    show roadB V.m V.e (Rd.d ⟨a.u, a.v, 6, 7⟩) = true
    rw [← hh6]; exact roadB_good ok6.1))
  have A4 := A3.fr f4 (by omega) (by omega) (by omega) (by omega)
  rw [tr1, put_put, ← hh6, ← hK] at B4
  obtain ⟨M5, s7, B5, f5⟩ := op_ex (m := "put") (f := eVar 4) (env := G (some (.d (KT K))) none none) (g4 _ _ _ _) B4 (al_road (g2 _ _ _ _)) (op_put B4 (by simp) (by show K.length ≤ 10000; omega) (roadB_good hr2.1))
  have A5 := A4.fr f5 (by omega) (by omega) (by omega) (by omega)
  have dr : ∀ l : List Rd, ((l ++ [r]).take l.length ++ (l ++ [r]).drop (l.length + 1)) = l := fun l => by
    rw [List.take_left' rfl, List.drop_of_length_le (by simp)]; simp
  have ln1 : ∀ M, eOp opAdd (eCallB cLen (aCons (eOp opIx (eVar 1) (eC (.int 3))) aNil)) (eC (.int 1)) (G (some (.d (KT K))) none none) M = .ok (.d (.int (K.length : Int))) M := fun M => by
    rw [u_eOp, len_kt (ix3 (g1 _ _ _ _)), lK]
    simp
  obtain ⟨M6, s8, B6, f6⟩ := op_ex (m := "drop") (f := eVar 4) (env := G (some (.d (KT K))) none none) (g4 _ _ _ _) B5 (al_cons (ln1 _) al_nil) (op_drop (i := K.length) B5 (by simp) (by show (K ++ [r]).length ≤ 10000; simp; omega) (by show K.length < (K ++ [r]).length; simp))
  have A6 := A5.fr f6 (by omega) (by omega) (by omega) (by omega)
  have B6' : SAt q (q + 1) (V.put K) ([] ++ [V.rs] ++ [a :: t] ++ [K] ++ [K ++ [r]]) M6 := by
    have : (V.put K).put (((V.put K).put (K ++ [r])).rs.take K.length ++ ((V.put K).put (K ++ [r])).rs.drop (K.length + 1)) = V.put K := by
      show V.put ((K ++ [r]).take K.length ++ (K ++ [r]).drop (K.length + 1)) = _
      rw [dr]
    rw [← this]
    exact B6
  -- joined
  have s9 : (sSet 6 (eVar 3)) (G (some (.d (KT K))) none none) M6 = .nx (G (some (.d (KT K))) (some (.loc n)) none) M6 := by
    rw [set_st (g3 _ _ _ _), y6]
  obtain ⟨M7, s10, A7, f7⟩ := aug_f2 (i := 6) (env := G (some (.d (KT K))) (some (.loc n)) none) (f := eVar 4) (by rw [hG, hE]; rfl) (g4 _ _ _ _) A6 B6' em eb ee (by simp) (by omega) (by show K.length ≤ 10000; omega)
  have B7 := B6'.fr f7 (by omega) (by omega) (by omega) (by omega)
  have A7' : SAt n (n + 1) (W.put (W.rs ++ K)) ([] ++ [W.rs]) M7 := A7
  have oWK : OkW (W.put (W.rs ++ K)) := o.put (wap okK) (by simp; omega)
  have oVK : OkW (V.put K) := o2.put okK (by omega)
  obtain ⟨H, hH⟩ : ∃ H, H = G (some (.d (KT K))) (some (.loc n)) none := ⟨_, rfl⟩
  have h0 : ∀ M, eVar 0 H M = .ok (.d W.d) M := fun M => by rw [hH]; exact g0 _ _ _ _
  have h1 : ∀ M, eVar 1 H M = .ok (.d V.d) M := fun M => by rw [hH]; exact g1 _ _ _ _
  have h2 : ∀ M, eVar 2 H M = .ok (.d r.d) M := fun M => by rw [hH]; exact g2 _ _ _ _
  have h3 : ∀ M, eVar 3 H M = .ok (.loc n) M := fun M => by rw [hH]; exact g3 _ _ _ _
  have h4 : ∀ M, eVar 4 H M = .ok (.loc q) M := fun M => by rw [hH]; exact g4 _ _ _ _
  have h5' : ∀ M, eVar 5 H M = .ok (.d (KT K)) M := fun M => by rw [hH]; exact g5 _ _ _ _
  have h6' : ∀ M, eVar 6 H M = .ok (.loc n) M := fun M => by rw [hH]; exact g6 _ _ _ _
  rw [← hH] at s9 s10
  have wk : ∀ M, eOp opAdd (eOp opIx (eVar 0) (eC (.int 3))) (eVar 5) H M = .ok (.d (KT (W.rs ++ K))) M := fun M => add_kt (ix3 (h0 M)) (h5' M) (by omega)
  have s11 : (sIf (tOrF (tVal (eOp opNe (eOp opIx (eCallM "Site" "web" F_Site_web (eVar 3) aNil) (eC (.int 3))) (eOp opAdd (eOp opIx (eVar 0) (eC (.int 3))) (eVar 5)))) (tOrF (tVal (eOp opNe (eOp opIx (eCallM "Site" "web" F_Site_web (eVar 4) aNil) (eC (.int 3))) (eVar 5))) (tVal (eOp opNe (eCallM "Site" "web" F_Site_web (eVar 6) aNil) (eCallM "Site" "web" F_Site_web (eVar 3) aNil))))) (sRet (eC (.bool false))) sNil) H M7 = .nx H M7 := by
    rw [if_f (or_f (rs_ne A7' oWK (h3 _) (wk _)) (or_f (rs_ne B7 oVK (h4 _) (h5' _)) (web_ne A7' oWK (h6' _) (web_ev (h3 _) A7')))), u_sNil]
  -- the one: put, taken back
  obtain ⟨M8, s12, A8, f8⟩ := op_ex (m := "put") (f := eVar 3) (env := H) (h3 _) A7' (al_road (h2 _)) (op_put A7' (by simp) (by simp; omega) (roadB_good hr.1))
  have B8 := B7.fr f8 (by omega) (by omega) (by omega) (by omega)
  have oWKr : OkW ((W.put (W.rs ++ K)).put ((W.put (W.rs ++ K)).rs ++ [r])) := oWK.put (fun x hx => by
    rcases List.mem_append.mp hx with hx | hx
    · exact oWK.mem x hx
    · simp only [List.mem_cons, List.not_mem_nil, or_false] at hx
      subst hx
      exact hr) (by simp; omega)
  obtain ⟨M9, eb9, A9, f9⟩ := op_ev (m := "back") (f := eVar 3) (env := H) (h3 _) A8 av_nil (op_back A8)
  have B9 := B8.fr f9 (by omega) (by omega) (by omega) (by omega)
  have A9' : SAt n (n + 1) (W.put (W.rs ++ K)) ([] ++ [W.rs]) M9 := A9
  have s13 : (sIf (tOrF (tVal (eOp opNe (eCallM "Site" "web" F_Site_web (eVar 6) aNil) (eCallM "Site" "web" F_Site_web (eVar 3) aNil))) (tOrF (tVal (eOp opNe (eOp opIx (eCallM "Site" "web" F_Site_web (eVar 4) aNil) (eC (.int 3))) (eVar 5))) (tVal (eOp opNotB (eCallM "Site" "back" F_Site_back (eVar 3) aNil) (eC (.bool true)))))) (sRet (eC (.bool false))) sNil) H M8 = .nx H M9 := by
    rw [if_st (or_f (web_ne A8 oWKr (h6' _) (web_ev (h3 _) A8)) (or_f (rs_ne B8 oVK (h4 _) (h5' _)) (isnot_b eb9 rfl))), u_sNil]
  -- the other: put, turned, dropped
  obtain ⟨M10, s14, B10, f10⟩ := op_ex (m := "put") (f := eVar 4) (env := H) (h4 _) B9 (al_road (h2 _)) (op_put B9 (by simp) (by show K.length ≤ 10000; omega) (roadB_good hr2.1))
  have A10 := A9'.fr f10 (by omega) (by omega) (by omega) (by omega)
  have B10' : SAt q (q + 1) (V.put (h6 :: (t ++ [r]))) ([] ++ [V.rs] ++ [a :: t] ++ [K] ++ [K ++ [r]] ++ [K]) M10 := by
    have : h6 :: (t ++ [r]) = K ++ [r] := by rw [hK]; rfl
    rw [this]
    exact B10
  obtain ⟨M11, s15, B11, f11⟩ := op_ex (m := "turn") (f := eVar 4) (env := H) (h4 _) B10' (al_cons (ev_c (x := .int ((0 : Nat) : Int))) (al_cons (ev_c (x := .int 8)) (al_cons (ev_c (x := .int 9)) al_nil))) (op_turn (i := 0) B10' (by simp) (by simp; omega) (by simp) (by
    show roadB V.m V.e (Rd.d ⟨h6.u, h6.v, 8, 9⟩) = true
    have : (⟨h6.u, h6.v, 8, 9⟩ : Rd) = h8 := by rw [hh6, hh8]
    rw [this]; exact roadB_good ok8.1))
  have A11 := A10.fr f11 (by omega) (by omega) (by omega) (by omega)
  have B11' : SAt q (q + 1) (V.put ((h8 :: t) ++ [r])) ([] ++ [V.rs] ++ [a :: t] ++ [K] ++ [K ++ [r]] ++ [K] ++ [K ++ [r]]) M11 := by
    have e1 : (⟨h6.u, h6.v, 8, 9⟩ : Rd) = h8 := by rw [hh6, hh8]
    have e2 : h6 :: (t ++ [r]) = K ++ [r] := by rw [hK]; rfl
    rw [tr1, put_put, e1] at B11
    have B11a : SAt q (q + 1) (V.put (h8 :: (t ++ [r]))) ([] ++ [V.rs] ++ [a :: t] ++ [K] ++ [K ++ [r]] ++ [K] ++ [h6 :: (t ++ [r])]) M11 := B11
    rw [e2] at B11a
    exact B11a
  obtain ⟨M12, s16, B12, f12⟩ := op_ex (m := "drop") (f := eVar 4) (env := H) (h4 _) B11' (al_cons (len_kt (h5' _)) al_nil) (op_drop (i := K.length) B11' (by simp) (by simp; omega) (by show K.length < ((h8 :: t) ++ [r]).length; simp; omega))
  have A12 := A11.fr f12 (by omega) (by omega) (by omega) (by omega)
  have B12' : SAt q (q + 1) (V.put (h8 :: t)) ([] ++ [V.rs] ++ [a :: t] ++ [K] ++ [K ++ [r]] ++ [K] ++ [K ++ [r]] ++ [(h8 :: t) ++ [r]]) M12 := by
    have lk : K.length = (h8 :: t).length := by rw [hK]; simp
    have : (V.put ((h8 :: t) ++ [r])).put ((V.put ((h8 :: t) ++ [r])).rs.take K.length ++ (V.put ((h8 :: t) ++ [r])).rs.drop (K.length + 1)) = V.put (h8 :: t) := by
      show V.put (((h8 :: t) ++ [r]).take K.length ++ ((h8 :: t) ++ [r]).drop (K.length + 1)) = _
      rw [lk, dr]
    rw [← this]
    exact B12
  have s17 : (sIf (tVal (eOp opNe (eOp opIx (eCallM "Site" "web" F_Site_web (eVar 3) aNil) (eC (.int 3))) (eOp opAdd (eOp opIx (eVar 0) (eC (.int 3))) (eVar 5)))) (sRet (eC (.bool false))) sNil) H M12 = .nx H M12 := by
    rw [if_f (rs_ne A12 oWK (h3 _) (wk _)), u_sNil]
  -- the one: turned, dropped
  have lw : ∀ M, eCallB cLen (aCons (eOp opIx (eVar 0) (eC (.int 3))) aNil) H M = .ok (.d (.int (W.rs.length : Int))) M := fun M => len_kt (ix3 (h0 M))
  have A12' : SAt n (n + 1) (W.put (W.rs ++ h6 :: t)) ([] ++ [W.rs]) M12 := by rw [← hK]; exact A12
  have gm : ∀ (b : Rd) (hb : W.rs.length < (W.rs ++ b :: t).length), (W.rs ++ b :: t)[W.rs.length]'hb = b := fun b hb => by simp
  obtain ⟨M13, s18, A13, f13⟩ := op_ex (m := "turn") (f := eVar 3) (env := H) (h3 _) A12' (al_cons (lw _) (al_cons (ev_c (x := .int 5)) (al_cons (ev_c (x := .int 5)) al_nil))) (op_turn (i := W.rs.length) A12' (by simp) (by simp; omega) (by simp) (by
    show roadB W.m W.e (Rd.d ⟨((W.rs ++ h6 :: t)[W.rs.length]'(by simp)).u, ((W.rs ++ h6 :: t)[W.rs.length]'(by simp)).v, 5, 5⟩) = true
    rw [gm]
    have : (⟨h6.u, h6.v, 5, 5⟩ : Rd) = h5 := by rw [hh6, hh5]
    rw [this]
    exact roadB_good (vw ok5).1))
  have B13 := B12'.fr f13 (by omega) (by omega) (by omega) (by omega)
  have A13' : SAt n (n + 1) (W.put (W.rs ++ h5 :: t)) ([] ++ [W.rs] ++ [W.rs ++ K]) M13 := by
    have e1 : (⟨h6.u, h6.v, 5, 5⟩ : Rd) = h5 := by rw [hh6, hh5]
    have : (W.put (W.rs ++ h6 :: t)).put ((W.put (W.rs ++ h6 :: t)).rs.take W.rs.length ++ ⟨((W.put (W.rs ++ h6 :: t)).rs[W.rs.length]'(by simp)).u, ((W.put (W.rs ++ h6 :: t)).rs[W.rs.length]'(by simp)).v, 5, 5⟩ :: (W.put (W.rs ++ h6 :: t)).rs.drop (W.rs.length + 1)) = W.put (W.rs ++ h5 :: t) := by
      show W.put ((W.rs ++ h6 :: t).take W.rs.length ++ ⟨((W.rs ++ h6 :: t)[W.rs.length]'(by simp)).u, ((W.rs ++ h6 :: t)[W.rs.length]'(by simp)).v, 5, 5⟩ :: (W.rs ++ h6 :: t).drop (W.rs.length + 1)) = _
      rw [gm, List.take_left' rfl, e1]
      congr 2
      congr 1
      rw [List.drop_append]
      simp
    rw [← this, hK]
    exact A13
  obtain ⟨M14, s19, A14, f14⟩ := op_ex (m := "drop") (f := eVar 3) (env := H) (h3 _) A13' (al_cons (lw _) al_nil) (op_drop (i := W.rs.length) A13' (by simp) (by simp; omega) (by simp))
  have B14 := B13.fr f14 (by omega) (by omega) (by omega) (by omega)
  have hd8 : ∀ M, eOp opAdd (eTup (aCons (eTup (aCons (eOp opIx (eOp opIx (eVar 5) (eC (.int 0))) (eC (.int 0))) (aCons (eOp opIx (eOp opIx (eVar 5) (eC (.int 0))) (eC (.int 1))) (aCons (eC (.int 8)) (aCons (eC (.int 9)) aNil))))) aNil)) (eSl (eVar 5) (pSome (eC (.int 1))) pNone) H M = .ok (.d (KT (h8 :: t))) M := fun M => by
    have h5c := h5' M
    rw [hK] at h5c
    rw [hd_kt (l := 8) (w := 9) h5c (by omega), hh6, hh8]
  have oV8 : OkW (V.put (h8 :: t)) := o2.put ok8t (by simp; omega)
  have s20 : (sIf (tVal (eOp opNe (eOp opIx (eCallM "Site" "web" F_Site_web (eVar 4) aNil) (eC (.int 3))) (eOp opAdd (eTup (aCons (eTup (aCons (eOp opIx (eOp opIx (eVar 5) (eC (.int 0))) (eC (.int 0))) (aCons (eOp opIx (eOp opIx (eVar 5) (eC (.int 0))) (eC (.int 1))) (aCons (eC (.int 8)) (aCons (eC (.int 9)) aNil))))) aNil)) (eSl (eVar 5) (pSome (eC (.int 1))) pNone)))) (sRet (eC (.bool false))) sNil) H M14 = .nx H M14 := by
    rw [if_f (rs_ne B14 oV8 (h4 _) (hd8 _)), u_sNil]
  -- all taken back
  obtain ⟨M15, c15, A15, f15⟩ := op_ev (m := "back") (f := eVar 3) (env := H) (h3 _) A14 av_nil (op_back A14)
  have B15 := B14.fr f15 (by omega) (by omega) (by omega) (by omega)
  obtain ⟨M16, c16, A16, f16⟩ := op_ev (m := "back") (f := eVar 3) (env := H) (h3 _) A15 av_nil (op_back A15)
  have B16 := B15.fr f16 (by omega) (by omega) (by omega) (by omega)
  obtain ⟨M17, c17, A17, f17⟩ := op_ev (m := "back") (f := eVar 3) (env := H) (h3 _) A16 av_nil (op_back A16)
  have B17 := B16.fr f17 (by omega) (by omega) (by omega) (by omega)
  have A17' : SAt n (n + 1) W [] M17 := A17
  have s21 : (sIf (tOrF (tVal (eOp opNe (eDat (fLst (aCons (eCallM "Site" "back" F_Site_back (eVar 3) aNil) (aCons (eCallM "Site" "back" F_Site_back (eVar 3) aNil) (aCons (eCallM "Site" "back" F_Site_back (eVar 3) aNil) aNil))))) (eOp opMul (eDat (fLst (aCons (eC (.bool true)) aNil))) (eC (.int 3))))) (tVal (eOp opNe (eCallM "Site" "web" F_Site_web (eVar 3) aNil) (eVar 0)))) (sRet (eC (.bool false))) sNil) H M14 = .nx H M17 := by
    rw [if_st (or_f (ne_st (lst_st (al_step c15 (al_step c16 (al_step c17 al_nil))) (by simp)) mul_t3 sm_3t) (web_ne A17' o (h3 _) (h0 _))), u_sNil]
  -- the comprehension
  have bk : ∀ (w : Va) (X : Wb) (qs : List (List Rd)) (x : List Rd) (K' : LH), SAt q (q + 1) X (qs ++ [x]) K' → SAt n (n + 1) W [] K' → ∃ K2, eCallM "Site" "back" F_Site_back (eVar 4) aNil ((wipeE H [8]).set 8 (some w)) K' = .ok (.d (.bool true)) K2 ∧ SAt q (q + 1) (X.put x) qs K2 ∧ SAt n (n + 1) W [] K2 ∧ Fr2 q (q + 1) K' K2 := by
    intro w X qs x K' hB hA
    obtain ⟨K2, c, B, f⟩ := op_ev (m := "back") (f := eVar 4) (env := (wipeE H [8]).set 8 (some w)) (ev_v (by rw [hH, hG, hE]; rfl)) hB av_nil (op_back hB)
    exact ⟨K2, c, B, hA.fr f (by omega) (by omega) (by omega) (by omega), f⟩
  obtain ⟨N1, c1, D1, C1, k1⟩ := bk (.d (.int 0)) _ _ _ _ B17 A17'
  obtain ⟨N2, c2, D2, C2, k2⟩ := bk (.d (.int 1)) _ _ _ _ D1 C1
  obtain ⟨N3, c3, D3, C3, k3⟩ := bk (.d (.int 2)) _ _ _ _ D2 C2
  obtain ⟨N4, c4, D4, C4, k4⟩ := bk (.d (.int 3)) _ _ _ _ D3 C3
  obtain ⟨N5, c5, D5, C5, k5⟩ := bk (.d (.int 4)) _ _ _ _ D4 C4
  obtain ⟨N6, c6, D6, C6, k6⟩ := bk (.d (.int 5)) _ _ _ _ D5 C5
  obtain ⟨N7, c7, D7, C7, k7⟩ := bk (.d (.int 6)) _ _ _ _ D6 C6
  have D7' : SAt q (q + 1) V [] N7 := D7
  have c8 : eCallM "Site" "back" F_Site_back (eVar 4) aNil ((wipeE H [8]).set 8 (some (.d (.int 7)))) N7 = .ok (.d (.bool false)) N7 := by
    rw [cm_ev (ev_v (by rw [hH, hG, hE]; rfl)) D7' av_nil, site_back0 D7']
  have cp : eDat (fComp (srcR1 (aCons (eC (.int 8)) aNil)) (tN 8) tTrue (eCallM "Site" "back" F_Site_back (eVar 4) aNil) [8]) H M17 = .ok (.d (.list [.bool true, .bool true, .bool true, .bool true, .bool true, .bool true, .bool true, .bool false])) N7 := by
    have cl : compL (tN 8) tTrue (eCallM "Site" "back" F_Site_back (eVar 4) aNil) [.d (.int 0), .d (.int 1), .d (.int 2), .d (.int 3), .d (.int 4), .d (.int 5), .d (.int 6), .d (.int 7)] (wipeE H [8]) M17 = .ok [.d (.bool true), .d (.bool true), .d (.bool true), .d (.bool true), .d (.bool true), .d (.bool true), .d (.bool true), .d (.bool false)] N7 :=
      compL_st (by rw [u_tN]) c1 (compL_st (by rw [u_tN]) c2 (compL_st (by rw [u_tN]) c3 (compL_st (by rw [u_tN]) c4 (compL_st (by rw [u_tN]) c5 (compL_st (by rw [u_tN]) c6 (compL_st (by rw [u_tN]) c7 (compL_st (by rw [u_tN]) c8 rfl)))))))
    have sr : srcR1 (aCons (eC (.int 8)) aNil) H M17 = .ok ([.d (.int 0), .d (.int 1), .d (.int 2), .d (.int 3), .d (.int 4), .d (.int 5), .d (.int 6), .d (.int 7)], none) M17 := by
      rw [u_srcR1, al_cons (ev_c (x := .int 8)) al_nil]
      rfl
    have zs := sizeLine_eq
    rw [u_eDat]
    unfold fComp
    rw [sr]
    simp only [Res.bind_ok, lockL_none, cl, openL_none]
    rw [if_pos (by simp; omega)]
    rfl
  obtain ⟨T8, hT8⟩ : ∃ T : PyData, T = .list [.bool true, .bool true, .bool true, .bool true, .bool true, .bool true, .bool true, .bool false] := ⟨_, rfl⟩
  obtain ⟨J, hJ⟩ : ∃ J, J = G (some (.d (KT K))) (some (.loc n)) (some (.d T8)) := ⟨_, rfl⟩
  have s22 : (sSet 7 (eDat (fComp (srcR1 (aCons (eC (.int 8)) aNil)) (tN 8) tTrue (eCallM "Site" "back" F_Site_back (eVar 4) aNil) [8]))) H M17 = .nx J N7 := by
    rw [set_st cp, hH, y7, hJ, hT8]
  have b0 : eCallM "Site" "back" F_Site_back (eVar 3) aNil J N7 = .ok (.d (.bool false)) N7 := by
    rw [cm_ev (by rw [hJ]; exact g3 _ _ _ _) C7 av_nil, site_back0 C7]
  have dueL : eOp opAdd (eOp opMul (eDat (fLst (aCons (eC (.bool true)) aNil))) (eC (.int 7))) (eDat (fLst (aCons (eC (.bool false)) aNil))) J N7 = .ok (.d T8) N7 := by
    rw [add_st (xs := [.bool true, .bool true, .bool true, .bool true, .bool true, .bool true, .bool true]) (ys := [PyData.bool false]) mul_t7 (lst_st (al_step ev_c al_nil) (by simp)) (by decide), hT8]
    rfl
  have fin : sRet (eAnd (eOp opEq (eVar 7) (eOp opAdd (eOp opMul (eDat (fLst (aCons (eC (.bool true)) aNil))) (eC (.int 7))) (eDat (fLst (aCons (eC (.bool false)) aNil))))) (eAnd (eOp opEq (eCallM "Site" "web" F_Site_web (eVar 4) aNil) (eVar 1)) (eOp opIsB (eCallM "Site" "back" F_Site_back (eVar 3) aNil) (eC (.bool false))))) J N7 = .rt (.d (.bool true)) N7 := by
    have q1 : eOp opEq (eVar 7) (eOp opAdd (eOp opMul (eDat (fLst (aCons (eC (.bool true)) aNil))) (eC (.int 7))) (eDat (fLst (aCons (eC (.bool false)) aNil)))) J N7 = .ok (.d (.bool true)) N7 := eq_same (x := T8) (by rw [hJ]; exact g7 _ _ _ _) dueL (by rw [hT8]; exact sm_7t)
    have q2 : eOp opEq (eCallM "Site" "web" F_Site_web (eVar 4) aNil) (eVar 1) J N7 = .ok (.d (.bool true)) N7 := by
      rw [web_eq D7' o2 o2 (by rw [hJ]; exact g4 _ _ _ _) (by rw [hJ]; exact g1 _ _ _ _), decide_eq_true rfl]
    have q3 : eOp opIsB (eCallM "Site" "back" F_Site_back (eVar 3) aNil) (eC (.bool false)) J N7 = .ok (.d (.bool true)) N7 := by
      rw [u_eOp, b0]
      simp
    rw [u_sRet, and_t q1 (and_t q2 q3)]
    rfl
  refine fn_out (L' := N7) (w := .d (.bool true)) rfl ?_ (settle_d _ _ _ _) (outV_pre ?_ _)
  · show b_l_joined_good [some (.d W.d), some (.d V.d), some (.d r.d), none, none, none, none, none, none] L = _
    rw [st]
    exact seq_nx s1 (seq_nx s2 (seq_nx s3 (seq_nx s4 (seq_nx s5 (seq_nx s6 (seq_nx s7 (seq_nx s8 (seq_nx s9 (seq_nx s10 (seq_nx s11 (seq_nx s12 (seq_nx s13 (seq_nx s14 (seq_nx s15 (seq_nx s16 (seq_nx s17 (seq_nx s18 (seq_nx s19 (seq_nx s20 (seq_nx s21 (seq_nx s22 fin)))))))))))))))))))))
  · have fq := fun {X Y : LH} (a : Pre L X) (f : Fr2 q (q + 1) X Y) => a.fr f (by omega) (by omega)
    have fn := fun {X Y : LH} (a : Pre L X) (f : Fr2 n (n + 1) X Y) => a.fr f (by omega) (by omega)
    exact fq (fq (fq (fq (fq (fq (fq (fn (fn (fn (fn (fn (fq (fq (fq (fn (fn (fn (fq (fq (fq (fq P2 f3) f4) f5) f6) f7) f8) f9) f10) f11) f12) f13) f14) f15) f16) f17) k1) k2) k3) k4) k5) k6) k7
end L2.HW
namespace L2.HW
open PySem PySem.Spec PyProof.Rows L2.HW.G PySem.NumText TL
theorem for_sameS {i : Nat} {s : Srcf} {body : SFn} {xs : List PyData} {env : En} {L : LH} (hs : s env L = .ok (xs.map Va.d, none) L) (hi : i < env.length) (hb : ∀ x ∈ xs, body (env.set i (some (.d x))) L = .nx (env.set i (some (.d x))) L) : ∃ y, sFor s (tN i) body env L = .nx (env.set i y) L := by
  obtain ⟨env', L', e, os, y, z1, z2, rfl, rfl⟩ := forL_inv (g := tN i) (body := body) (I := fun ws env' M => ∃ (os : List PyData) (y : Option Va), ws = os.map Va.d ∧ (∀ o ∈ os, o ∈ xs) ∧ env' = env.set i y ∧ M = L) (xs.map Va.d) env L ⟨xs, env[i], rfl, fun _ h => h, (set_back (List.getElem?_eq_getElem hi)).symm, rfl⟩ (fun w r env' M ⟨os, y, e1, e2, e3, e4⟩ => by
    subst e3 e4
    cases os with
    | nil => cases e1
    | cons o os =>
      simp only [List.map_cons, List.cons.injEq] at e1
      obtain ⟨rfl, rfl⟩ := e1
      exact ⟨_, _, by rw [u_tN], _, _, .inl (by rw [List.set_set]; exact hb o (e2 o List.mem_cons_self)), os, _, rfl, fun q hq => e2 q (List.mem_cons_of_mem _ hq), rfl, rfl⟩)
  exact ⟨y, for_nx hs e⟩
theorem srcV_l {f : EF} {xs : List PyData} {env : En} {L : LH} (h : f env L = .ok (.d (.list xs)) L) : srcV f env L = .ok (xs.map Va.d, none) L := by
  rw [u_srcV, h]
  rfl
theorem place_ev {v : Nat} {fm fb fe : EF} {m b e : Int} {env : En} {L : LH} (h3 : 3 ≤ m) (hM : m ≤ 10000) (hm : fm env L = .ok (.d (.int m)) L) (hv : ∀ w, eVar v ((wipeE env [v]).set v (some w)) L = .ok w L) (hb : ∀ w, fb ((wipeE env [v]).set v (some w)) L = .ok (.d (.int b)) L) (he : ∀ w, fe ((wipeE env [v]).set v (some w)) L = .ok (.d (.int e)) L) :
    ∃ x, eOp opIx (eDat (fComp (srcR1 (aCons fm aNil)) (tN v) (tVal (eOp (opIn true) (eVar v) (eDat (fLst (aCons fb (aCons fe aNil)))))) (eVar v) [v])) (eC (.int 0)) env L = .ok (.d (.int x)) L ∧ 0 ≤ x ∧ x < m ∧ x ≠ b ∧ x ≠ e := by
  have zs := sizeLine_eq
  have c := fComp_filter (s := srcR1 (aCons fm aNil)) (g := tN v) (t := tVal (eOp (opIn true) (eVar v) (eDat (fLst (aCons fb (aCons fe aNil)))))) (f := eVar v) (vs := [v]) (env := env) (L := L) (xs := (List.range m.toNat).map fun i : Nat => PyData.int (i : Int)) (fun x => match x with | .int i => decide (i ≠ b ∧ i ≠ e) | _ => false) (by
    rw [u_srcR1, al_cons hm al_nil]
    simp only [Res.bind_ok, List.map_cons, List.map_nil]
    rw [if_pos (by omega)]
    unfold rngV
    rw [List.map_map]
    congr 2
    exact List.map_congr_left fun i _ => by simp) (by simp; omega) (fun x hx => by
      obtain ⟨i, hi, rfl⟩ := List.mem_map.mp hx
      exact ⟨(wipeE env [v]).set v (some (.d (.int (i : Int)))), by rw [u_tN], notin2 (x := (i : Int)) (b := b) (e := e) (hv _) (hb _) (he _), hv _⟩)
  obtain ⟨ys, hys⟩ : ∃ ys, ys = (((List.range m.toNat).map fun i : Nat => PyData.int (i : Int)).filter fun x => match x with | .int i => decide (i ≠ b ∧ i ≠ e) | _ => false) := ⟨_, rfl⟩
  rw [← hys] at c
  have mem : ∀ y ∈ ys, ∃ i : Int, y = .int i ∧ 0 ≤ i ∧ i < m ∧ i ≠ b ∧ i ≠ e := fun y hy => by
    rw [hys] at hy
    obtain ⟨h1, h2⟩ := List.mem_filter.mp hy
    obtain ⟨i, hi, rfl⟩ := List.mem_map.mp h1
    rw [List.mem_range] at hi
    have h2 := of_decide_eq_true h2
    exact ⟨i, rfl, by omega, by omega, h2⟩
  have has : ys ≠ [] := fun z => by
    have k : ∀ i : Nat, (i : Int) < m → (i : Int) = b ∨ (i : Int) = e := fun i hi => Classical.byContradiction fun hc => by
      have : PyData.int (i : Int) ∈ ys := by
        rw [hys]
        refine List.mem_filter.mpr ⟨List.mem_map.mpr ⟨i, List.mem_range.mpr (by omega), rfl⟩, ?_⟩
        exact decide_eq_true (by omega)
      rw [z] at this
      cases this
    have k0 := k 0 (by omega)
    have k1 := k 1 (by omega)
    have k2 := k 2 (by omega)
    omega
  obtain ⟨y, yr, rfl⟩ : ∃ y yr, ys = y :: yr := by
    cases ys with
    | nil => exact absurd rfl has
    | cons y yr => exact ⟨y, yr, rfl⟩
  obtain ⟨x, rfl, q⟩ := mem y List.mem_cons_self
  refine ⟨x, ?_, q⟩
  have dg : Va.dget L (.d (.list (.int x :: yr))) (.d (.int 0)) = none := rfl
  rw [u_eOp, u_eDat, c]
  simp only [Res.bind_ok, va_lst, ev_c, u_opIx, dg, Va.seq, List.map_cons]
  simp [atI, ixN]
theorem last1_kt {rs : List Rd} {f : EF} {env : En} {L : LH} (h : f env L = .ok (.d (KT rs)) L) : eSl f pNone (pSome (eNeg (eC (.int 1)))) env L = .ok (.d (KT (rs.take (rs.length - 1)))) L := by
  have so : pSome (eNeg (eC (.int 1))) env L = .ok (some (-1 : Int)) L := by simp
  have sn : pNone env L = .ok (none : Option Int) L := by simp
  have c : cutA (rs.map Rd.d) none (some (-1 : Int)) = (rs.take (rs.length - 1)).map Rd.d := by
    have ln : (rs.map Rd.d).length = rs.length := by rw [List.length_map]
    have h1 : HT.sIx (rs.map Rd.d).length 0 none = 0 := rfl
    have h2 : HT.sIx (rs.map Rd.d).length (rs.map Rd.d).length (some (-1)) = rs.length - 1 := by
      rw [ln]
      unfold HT.sIx
      simp
      omega
    unfold cutA
    rw [h1, h2, List.map_take]
    simp
  rw [u_eSl, h]
  simp only [Res.bind_ok, so, sn, u_opSl]
  rw [c]
theorem rev_kt {rs : List Rd} {f : EF} {env : En} {L : LH} (h : f env L = .ok (.d (KT rs)) L) : eRev f env L = .ok (.d (KT rs.reverse)) L := by
  rw [u_eRev, h]
  simp only [Res.bind_ok, data_d, ← List.map_reverse]
theorem list_kt {rs : List Rd} {f : EF} {env : En} {L : LH} (h : f env L = .ok (.d (KT rs)) L) : eDat (fCallB cList (aCons f aNil)) env L = .ok (.d (rsD rs)) L := list_tup h
theorem wb_ev {m b e : Int} {rs : List Rd} {f1 f2 f3 f4 : EF} {env : En} {L : LH} (h1 : f1 env L = .ok (.d (.int m)) L) (h2 : f2 env L = .ok (.d (.int b)) L) (h3 : f3 env L = .ok (.d (.int e)) L) (h4 : f4 env L = .ok (.d (KT rs)) L) : eTup (aCons f1 (aCons f2 (aCons f3 (aCons f4 aNil)))) env L = .ok (.d (⟨m, b, e, rs⟩ : Wb).d) L := tup_al (al_cons h1 (al_cons h2 (al_cons h3 (al_cons h4 al_nil)))) (by simp)
theorem inc1_ev {m : Int} {f : EF} {env : En} {L : LH} (h : f env L = .ok (.d (.int m)) L) : eOp opAdd f (eC (.int 1)) env L = .ok (.d (.int (m + 1))) L := by
  rw [u_eOp, h]
  simp
theorem FT_repr {f : EF} {env : En} {L : LH} (h : f env L = .ok (.d (.list [.bool false, .bool true])) L) : eCallB cRepr (aCons f aNil) env L = .ok (.d (.str "[False, True]")) L := by
  rw [u_eCallB, al_cons h al_nil]
  simp only [Res.bind_ok, List.map_cons, List.map_nil]
  rw [repr_run (x := .list [.bool false, .bool true]) (okShow_of (by decide) (by decide) (by decide)) rfl]
  rfl
end L2.HW
namespace L2.HW
open PySem PySem.Spec PyProof.Rows L2.HW.G PySem.NumText TL
theorem k51_turn (ns : List Int) (hl : ns.length ≤ 63) (j : Nat) (hj : j ≤ 1000) {x2 x3 x4 x5 x6 x7 x8 x9 x10 x11 x12 x13 x14 x15 x16 x17 : Option Va} (M : LH) : ∃ c2 c3 c4 c5 c6 c7 c8 c9 c10 c11 c12 c13 c14 c15 M', b_law_k51_3 [some (.scr ns), some (.d (.int (j : Int))), x2, x3, x4, x5, x6, x7, x8, x9, x10, x11, x12, x13, x14, x15, x16, x17] M = .nx [some (.scr ns), some (.d (.int (j : Int))), c2, c3, c4, c5, c6, c7, c8, c9, c10, c11, c12, c13, c14, c15, x16, x17] M' := by
  have zs := sizeLine_eq
  obtain ⟨p, ep⟩ := pile_ex (ns := ns) (k := j) (L := M) (by omega) (by omega) hl
  have hs : M ++ [P1 p] = (M ++ [P1 0]).set M.length (P1 p) := by rw [List.set_append_right _ _ (Nat.le_refl _)]; simp
  obtain ⟨L, hL⟩ : ∃ L, L = M ++ [P1 0] := ⟨_, rfl⟩
  have hn : M.length < L.length := by rw [hL]; simp
  rw [← hL] at hs
  generalize hnn : M.length = q at hs hn
  obtain ⟨w, p1, ew, gw⟩ := web_ex (L := L) (n := q) (p := p) (top := 4) hn (by omega) (by omega)
  obtain ⟨W, rfl, g, hwm, hrl, s5⟩ := web_of gw (by omega)
  have m2 := g.m2
  have b0 := g.b0; have b1 := g.b1; have e0 := g.e0; have e1 := g.e1; have be := g.be
  obtain ⟨u1, p2, u10, u15, et1⟩ := take_ex (p := p1) hn (show (0 : Int) < 5 by omega)
  obtain ⟨u2, p3, u20, u25, et2⟩ := take_ex (p := p2) hn (show (0 : Int) < 5 by omega)
  obtain ⟨N, hN⟩ : ∃ N, N = L.set q (P1 p3) := ⟨_, rfl⟩
  obtain ⟨r, hr⟩ : ∃ r : Rd, r = ⟨W.b, W.e, 1 + u1, 1 + u2⟩ := ⟨_, rfl⟩
  have okr : Rd.Good W.m W.e r ∧ r.l ≤ 5 ∧ r.w ≤ 5 := by
    rw [hr]
    exact ⟨road_be g (by omega) (by omega), by show 1 + u1 ≤ 5; omega, by show 1 + u2 ≤ 5; omega⟩
  obtain ⟨E, hE⟩ : ∃ E : Option Va → Option Va → Option Va → Option Va → Option Va → Option Va → Option Va → Option Va → Option Va → En, E = fun x3 x4 x5 x6 x7 x8 x9 x10 x11 => [some (.scr ns), some (.d (.int (j : Int))), some (.loc q), x3, x4, x5, x6, x7, x8, x9, x10, x11, some (.d (.int W.m)), some (.d (.int W.b)), some (.d (.int W.e)), some (.d (KT W.rs)), x16, x17] := ⟨_, rfl⟩
  have t1 : (sSet 2 (eNew (fCall F_l_pile (aCons (eVar 0) (aCons (eVar 1) aNil))))) [some (.scr ns), some (.d (.int (j : Int))), x2, x3, x4, x5, x6, x7, x8, x9, x10, x11, x12, x13, x14, x15, x16, x17] M = .nx [some (.scr ns), some (.d (.int (j : Int))), some (.loc q), x3, x4, x5, x6, x7, x8, x9, x10, x11, x12, x13, x14, x15, x16, x17] (L.set q (P1 p)) := by
    simp only [u_sSet, u_eNew, u_fCall, u_aCons, u_aNil, u_eVar, List.getElem?_cons_succ, List.getElem?_cons_zero, Res.bind_ok, List.set_cons_succ, List.set_cons_zero, ep, then_ok, hnn, ← hs]
  have t2 : (sAsg (eCall F_l_web (aCons (eVar 2) (aCons (eC (.int 4)) aNil))) (tTupT 4 (tgCons (tN 12) (tgCons (tN 13) (tgCons (tN 14) (tgCons (tN 15) tgNil)))))) [some (.scr ns), some (.d (.int (j : Int))), some (.loc q), x3, x4, x5, x6, x7, x8, x9, x10, x11, x12, x13, x14, x15, x16, x17] (L.set q (P1 p)) = .nx (E x3 x4 x5 x6 x7 x8 x9 x10 x11) (L.set q (P1 p1)) := by
    rw [hE]
    simp [ew, Wb.d, Va.seq]
  have v2 : ∀ a b c d e f h i k M, eVar 2 (E a b c d e f h i k) M = .ok (.loc q) M := fun _ _ _ _ _ _ _ _ _ M => ev_v (by rw [hE]; rfl)
  have v3 : ∀ (a : Va) b c d e f h i k M, eVar 3 (E (some a) b c d e f h i k) M = .ok a M := fun _ _ _ _ _ _ _ _ _ M => ev_v (by rw [hE]; rfl)
  have v4 : ∀ a (b : Va) c d e f h i k M, eVar 4 (E a (some b) c d e f h i k) M = .ok b M := fun _ _ _ _ _ _ _ _ _ M => ev_v (by rw [hE]; rfl)
  have v5 : ∀ a b (c : Va) d e f h i k M, eVar 5 (E a b (some c) d e f h i k) M = .ok c M := fun _ _ _ _ _ _ _ _ _ M => ev_v (by rw [hE]; rfl)
  have v6 : ∀ a b c (d : Va) e f h i k M, eVar 6 (E a b c (some d) e f h i k) M = .ok d M := fun _ _ _ _ _ _ _ _ _ M => ev_v (by rw [hE]; rfl)
  have v7 : ∀ a b c d (e : Va) f h i k M, eVar 7 (E a b c d (some e) f h i k) M = .ok e M := fun _ _ _ _ _ _ _ _ _ M => ev_v (by rw [hE]; rfl)
  have v8 : ∀ a b c d e (f : Va) h i k M, eVar 8 (E a b c d e (some f) h i k) M = .ok f M := fun _ _ _ _ _ _ _ _ _ M => ev_v (by rw [hE]; rfl)
  have v9 : ∀ a b c d e f (h : Va) i k M, eVar 9 (E a b c d e f (some h) i k) M = .ok h M := fun _ _ _ _ _ _ _ _ _ M => ev_v (by rw [hE]; rfl)
  have v11 : ∀ a b c d e f h i (k : Va) M, eVar 11 (E a b c d e f h i (some k)) M = .ok k M := fun _ _ _ _ _ _ _ _ _ M => ev_v (by rw [hE]; rfl)
  have v12 : ∀ a b c d e f h i k M, eVar 12 (E a b c d e f h i k) M = .ok (.d (.int W.m)) M := fun _ _ _ _ _ _ _ _ _ M => ev_v (by rw [hE]; rfl)
  have v13 : ∀ a b c d e f h i k M, eVar 13 (E a b c d e f h i k) M = .ok (.d (.int W.b)) M := fun _ _ _ _ _ _ _ _ _ M => ev_v (by rw [hE]; rfl)
  have v14 : ∀ a b c d e f h i k M, eVar 14 (E a b c d e f h i k) M = .ok (.d (.int W.e)) M := fun _ _ _ _ _ _ _ _ _ M => ev_v (by rw [hE]; rfl)
  have v15 : ∀ a b c d e f h i k M, eVar 15 (E a b c d e f h i k) M = .ok (.d (KT W.rs)) M := fun _ _ _ _ _ _ _ _ _ M => ev_v (by rw [hE]; rfl)
  have w3 : ∀ a b c d e f h i k y, (E a b c d e f h i k).set 3 y = E y b c d e f h i k := fun _ _ _ _ _ _ _ _ _ _ => by rw [hE]; rfl
  have w4 : ∀ a b c d e f h i k y, (E a b c d e f h i k).set 4 y = E a y c d e f h i k := fun _ _ _ _ _ _ _ _ _ _ => by rw [hE]; rfl
  have w5 : ∀ a b c d e f h i k y, (E a b c d e f h i k).set 5 y = E a b y d e f h i k := fun _ _ _ _ _ _ _ _ _ _ => by rw [hE]; rfl
  have w6 : ∀ a b c d e f h i k y, (E a b c d e f h i k).set 6 y = E a b c y e f h i k := fun _ _ _ _ _ _ _ _ _ _ => by rw [hE]; rfl
  have w7 : ∀ a b c d e f h i k y, (E a b c d e f h i k).set 7 y = E a b c d y f h i k := fun _ _ _ _ _ _ _ _ _ _ => by rw [hE]; rfl
  have w8 : ∀ a b c d e f h i k y, (E a b c d e f h i k).set 8 y = E a b c d e y h i k := fun _ _ _ _ _ _ _ _ _ _ => by rw [hE]; rfl
  have w9 : ∀ a b c d e f h i k y, (E a b c d e f h i k).set 9 y = E a b c d e f y i k := fun _ _ _ _ _ _ _ _ _ _ => by rw [hE]; rfl
  have w10 : ∀ a b c d e f h i k y, (E a b c d e f h i k).set 10 y = E a b c d e f h y k := fun _ _ _ _ _ _ _ _ _ _ => by rw [hE]; rfl
  have w11 : ∀ a b c d e f h i k y, (E a b c d e f h i k).set 11 y = E a b c d e f h i y := fun _ _ _ _ _ _ _ _ _ _ => by rw [hE]; rfl
  have el : ∀ a b c d e f h i k, (E a b c d e f h i k).length = 18 := fun _ _ _ _ _ _ _ _ _ => by rw [hE]; rfl
  -- the road
  have tk : ∀ (P Q u : Int) (env : En), env[2]? = some (some (.loc q)) → F_l_take [.loc q, .d (.int 5)] (L.set q (P1 P)) = .ok (.d (.int u)) (L.set q (P1 Q)) → eOp opAdd (eC (.int 1)) (eCall F_l_take (aCons (eVar 2) (aCons (eC (.int 5)) aNil))) env (L.set q (P1 P)) = .ok (.d (.int (1 + u))) (L.set q (P1 Q)) := fun P Q u env he h => by
    rw [u_eOp, ev_c]
    simp only [Res.bind_ok]
    rw [u_eCall, av_cons (ev_v he) (av_cons ev_c av_nil)]
    simp only [Res.bind_ok, h]
    simp
  have t3 : (sSet 3 (eTup (aCons (eVar 13) (aCons (eVar 14) (aCons (eOp opAdd (eC (.int 1)) (eCall F_l_take (aCons (eVar 2) (aCons (eC (.int 5)) aNil)))) (aCons (eOp opAdd (eC (.int 1)) (eCall F_l_take (aCons (eVar 2) (aCons (eC (.int 5)) aNil)))) aNil)))))) (E x3 x4 x5 x6 x7 x8 x9 x10 x11) (L.set q (P1 p1)) = .nx (E (some (.d r.d)) x4 x5 x6 x7 x8 x9 x10 x11) N := by
    have tp : eTup (aCons (eVar 13) (aCons (eVar 14) (aCons (eOp opAdd (eC (.int 1)) (eCall F_l_take (aCons (eVar 2) (aCons (eC (.int 5)) aNil)))) (aCons (eOp opAdd (eC (.int 1)) (eCall F_l_take (aCons (eVar 2) (aCons (eC (.int 5)) aNil)))) aNil)))) (E x3 x4 x5 x6 x7 x8 x9 x10 x11) (L.set q (P1 p1)) = .ok (.d r.d) N := by
      rw [u_eTup, av_cons (v13 _ _ _ _ _ _ _ _ _ _) (av_cons (v14 _ _ _ _ _ _ _ _ _ _) (av_cons (tk p1 p2 u1 _ (by rw [hE]; rfl) et1) (av_cons (tk p2 p3 u2 _ (by rw [hE]; rfl) et2) av_nil)))]
      simp only [Res.bind_ok]
      rw [if_pos (by simp; omega), hN, hr]
      rfl
    rw [set_st tp, w3]
  obtain ⟨R, hR⟩ : ∃ R : Option Va, R = some (.d r.d) := ⟨_, rfl⟩
  rw [← hR] at t3
  have t4 : (sSet 4 (eTup (aCons (eVar 12) (aCons (eVar 13) (aCons (eVar 14) (aCons (eVar 15) aNil)))))) (E R x4 x5 x6 x7 x8 x9 x10 x11) N = .nx (E R (some (.d W.d)) x5 x6 x7 x8 x9 x10 x11) N := by
    rw [set_st (wb_ev (v12 _ _ _ _ _ _ _ _ _ _) (v13 _ _ _ _ _ _ _ _ _ _) (v14 _ _ _ _ _ _ _ _ _ _) (v15 _ _ _ _ _ _ _ _ _ _)), w4]
  -- the others
  obtain ⟨rs1, h1⟩ : ∃ x, x = W.rs.reverse := ⟨_, rfl⟩
  obtain ⟨rs2, h2⟩ : ∃ x, x = W.rs.take (W.rs.length - 1) := ⟨_, rfl⟩
  have t5 : (sSet 5 (eDat (fLst (aCons (eVar 4) (aCons (eTup (aCons (eVar 12) (aCons (eVar 13) (aCons (eVar 14) (aCons (eRev (eVar 15)) aNil))))) (aCons (eTup (aCons (eVar 12) (aCons (eVar 13) (aCons (eVar 14) (aCons (eSl (eVar 15) pNone (pSome (eNeg (eC (.int 1))))) aNil))))) (aCons (eTup (aCons (eOp opAdd (eVar 12) (eC (.int 1))) (aCons (eVar 13) (aCons (eVar 14) (aCons (eVar 15) aNil))))) aNil))))))) (E R (some (.d W.d)) x5 x6 x7 x8 x9 x10 x11) N = .nx (E R (some (.d W.d)) (some (.d (.list [W.d, (W.put rs1).d, (W.put rs2).d, (⟨W.m + 1, W.b, W.e, W.rs⟩ : Wb).d]))) x6 x7 x8 x9 x10 x11) N := by
    rw [set_st (lst_al (al_cons (v4 _ _ _ _ _ _ _ _ _ _) (al_cons (wb_ev (v12 _ _ _ _ _ _ _ _ _ _) (v13 _ _ _ _ _ _ _ _ _ _) (v14 _ _ _ _ _ _ _ _ _ _) (rev_kt (v15 _ _ _ _ _ _ _ _ _ _))) (al_cons (wb_ev (v12 _ _ _ _ _ _ _ _ _ _) (v13 _ _ _ _ _ _ _ _ _ _) (v14 _ _ _ _ _ _ _ _ _ _) (last1_kt (v15 _ _ _ _ _ _ _ _ _ _))) (al_cons (wb_ev (inc1_ev (v12 _ _ _ _ _ _ _ _ _ _)) (v13 _ _ _ _ _ _ _ _ _ _) (v14 _ _ _ _ _ _ _ _ _ _) (v15 _ _ _ _ _ _ _ _ _ _)) al_nil)))) (by simp)), w5, h1, h2]
  obtain ⟨W3, hW3⟩ : ∃ x : Wb, x = ⟨W.m + 1, W.b, W.e, W.rs⟩ := ⟨_, rfl⟩
  rw [← hW3] at t5
  obtain ⟨O4, hO4⟩ : ∃ O : List PyData, O = [W.d, (W.put rs1).d, (W.put rs2).d, W3.d] := ⟨_, rfl⟩
  rw [← hO4] at t5
  obtain ⟨x, px, q0, q1, qb, qe⟩ := place_ev (v := 16) (fm := eOp opAdd (eVar 12) (eC (.int 1))) (fb := eVar 13) (fe := eVar 14) (m := W.m + 1) (b := W.b) (e := W.e) (env := E R (some (.d W.d)) (some (.d (.list O4))) x6 x7 x8 x9 x10 x11) (L := N) (by omega) (by omega) (inc1_ev (v12 _ _ _ _ _ _ _ _ _ _)) (fun w => ev_v (by rw [hE]; rfl)) (fun w => ev_v (by rw [hE]; rfl)) (fun w => ev_v (by rw [hE]; rfl))
  have t6 := set_st (i := 6) px
  rw [w6] at t6
  obtain ⟨W4, hW4⟩ : ∃ y : Wb, y = ⟨W.m + 1, x, W.e, W.rs⟩ := ⟨_, rfl⟩
  -- all are fine
  have big : ∀ y ∈ W.rs, Rd.Good W.m W.e y ∧ y.l ≤ 2 ^ 100 ∧ y.w ≤ 2 ^ 100 := fun y hy => ⟨g.rs y hy, by have := (s5 y hy).1; omega, by have := (s5 y hy).2; omega⟩
  have oW : OkW W := ⟨g, fun y hy => (big y hy).2⟩
  have oW1 : OkW (W.put rs1) := oW.put (fun y hy => big y (by rw [h1] at hy; exact List.mem_reverse.mp hy)) (by rw [h1]; simp; omega)
  have oW2 : OkW (W.put rs2) := oW.put (fun y hy => big y (by rw [h2] at hy; exact List.mem_of_mem_take hy)) (by rw [h2]; simp; omega)
  have more : ∀ {y : Rd}, Rd.Good W.m W.e y → Rd.Good (W.m + 1) W.e y := fun h => ⟨h.u0, by have := h.u1; omega, h.ue, h.v0, by have := h.v1; omega, h.uv, h.l1, h.w1⟩
  have wide : ∀ b : Int, 0 ≤ b → b < W.m + 1 → b ≠ W.e → OkW ⟨W.m + 1, b, W.e, W.rs⟩ := fun b z0 z1 z2 => ⟨⟨by show 2 ≤ W.m + 1; omega, by show W.m + 1 ≤ 1000; omega, z0, z1, e0, by show W.e < W.m + 1; omega, z2, fun y hy => more (big y hy).1, by show W.rs.length ≤ 10000; omega⟩, fun y hy => (big y hy).2⟩
  have oW3 : OkW W3 := by rw [hW3]; exact wide W.b b0 (by omega) be
  have oW4 : OkW W4 := by rw [hW4]; exact wide x q0 q1 qe
  have oW5 : OkW ⟨W.m + 1, W.m, W.e, W.rs⟩ := wide W.m (by omega) (by omega) (by omega)
  have oW6 : OkW ⟨W.m + 1, W.b, W.m, W.rs⟩ := ⟨⟨by show 2 ≤ W.m + 1; omega, by show W.m + 1 ≤ 1000; omega, b0, by show W.b < W.m + 1; omega, by show 0 ≤ W.m; omega, by show W.m < W.m + 1; omega, by show W.b ≠ W.m; omega, fun y hy => by
    have h := (big y hy).1
    exact ⟨h.u0, by have := h.u1; show y.u < W.m + 1; omega, by have := h.u1; show y.u ≠ W.m; omega, h.v0, by have := h.v1; show y.v < W.m + 1; omega, h.uv, h.l1, h.w1⟩, by show W.rs.length ≤ 10000; omega⟩, fun y hy => (big y hy).2⟩
  have rW : RdOk W r := ⟨okr.1, by have := okr.2.1; omega, by have := okr.2.2; omega⟩
  have rM : ∀ b rs, RdOk ⟨W.m + 1, b, W.e, rs⟩ r := fun b rs => ⟨more okr.1, rW.2⟩
  have one : ∀ (V : Wb) (env : En), OkW V → V.rs.length ≤ 100 → RdOk V r → env[4]? = some (some (.d W.d)) → env[7]? = some (some (.d V.d)) → env[3]? = some (some (.d r.d)) → b_law_k51_1 env N = .nx env N := fun V env oV lV rV h4 h7 h3 => by
    have c1 : tNotF (tVal (eCall F_l_good_v17 (aCons (eVar 4) (aCons (eVar 7) (aCons (eVar 3) aNil))))) env N = .ok false N := by
      rw [u_tNotF, u_tVal, u_eCall, av_cons (ev_v h4) (av_cons (ev_v h7) (av_cons (ev_v h3) av_nil))]
      simp only [Res.bind_ok, good17_run oW oV (by omega) lV rW rV, Bool.not_true]
    have c2 : tNotF (tVal (eCall F_l_joined_good (aCons (eVar 4) (aCons (eVar 7) (aCons (eVar 3) aNil))))) env N = .ok false N := by
      rw [u_tNotF, u_tVal, u_eCall, av_cons (ev_v h4) (av_cons (ev_v h7) (av_cons (ev_v h3) av_nil))]
      simp only [Res.bind_ok, joined_good_run oW oV (by omega) lV rW rV, Bool.not_true]
    unfold b_law_k51_1
    rw [if_f (or_f c1 c2), u_sNil]
  have src7 : srcV (eOp opAdd (eVar 5) (eDat (fLst (aCons (eTup (aCons (eOp opAdd (eVar 12) (eC (.int 1))) (aCons (eVar 6) (aCons (eVar 14) (aCons (eVar 15) aNil))))) aNil)))) (E R (some (.d W.d)) (some (.d (.list O4))) (some (.d (.int x))) x7 x8 x9 x10 x11) N = .ok ((O4 ++ [W4.d]).map Va.d, none) N := by
    rw [hW4]
    exact srcV_l (add_ll (v5 _ _ _ _ _ _ _ _ _ _) (lst_al (al_cons (wb_ev (inc1_ev (v12 _ _ _ _ _ _ _ _ _ _)) (v6 _ _ _ _ _ _ _ _ _ _) (v14 _ _ _ _ _ _ _ _ _ _) (v15 _ _ _ _ _ _ _ _ _ _)) al_nil) (by simp)) (by rw [hO4]; simp))
  obtain ⟨y7, t7⟩ := for_sameS (i := 7) (body := b_law_k51_1) src7 (by rw [el]; omega) (fun z hz => by
    rw [w7]
    rw [hO4] at hz
    simp only [List.cons_append, List.nil_append, List.mem_cons, List.not_mem_nil, or_false] at hz
    have run := fun (V : Wb) (oV : OkW V) (lV : V.rs.length ≤ 100) (rV : RdOk V r) => one V (E R (some (.d W.d)) (some (.d (.list O4))) (some (.d (.int x))) (some (.d V.d)) x8 x9 x10 x11) oV lV rV (by rw [hE]; rfl) (by rw [hE]; rfl) (by rw [hE, hR]; rfl)
    rcases hz with rfl | rfl | rfl | rfl | rfl
    · exact run W oW (by omega) rW
    · exact run _ oW1 (by rw [h1]; simp; omega) rW
    · exact run _ oW2 (by rw [h2]; simp; omega) rW
    · exact run W3 oW3 (by rw [hW3]; show W.rs.length ≤ 100; omega) (by rw [hW3]; exact rM _ _)
    · exact run W4 oW4 (by rw [hW4]; show W.rs.length ≤ 100; omega) (by rw [hW4]; exact rM _ _))
  rw [w7] at t7
  obtain ⟨O5, hO5⟩ : ∃ O : Option Va, O = some (.d (.list O4)) := ⟨_, rfl⟩
  rw [← hO5] at t5 t6 t7
  obtain ⟨N1, mk1, A1, pr1, l1⟩ := op_make (f := eTup (aCons (eOp opAdd (eVar 12) (eC (.int 1))) (aCons (eVar 13) (aCons (eVar 14) (aCons (eVar 15) aNil))))) (env := E R (some (.d W.d)) O5 (some (.d (.int x))) y7 x8 x9 x10 x11) (L := N) oW3.gd (by rw [hW3]; exact wb_ev (inc1_ev (v12 _ _ _ _ _ _ _ _ _ _)) (v13 _ _ _ _ _ _ _ _ _ _) (v14 _ _ _ _ _ _ _ _ _ _) (v15 _ _ _ _ _ _ _ _ _ _))
  have t8 := set_st (i := 8) mk1
  rw [w8] at t8
  obtain ⟨n, hn8⟩ : ∃ n, n = N.length := ⟨_, rfl⟩
  rw [← hn8] at t8 A1
  obtain ⟨F, hF⟩ : ∃ F : Option Va → Option Va → Option Va → En, F = fun a b c => E R (some (.d W.d)) O5 (some (.d (.int x))) y7 (some (.loc n)) a b c := ⟨_, rfl⟩
  have f8 : ∀ a b c M, eVar 8 (F a b c) M = .ok (.loc n) M := fun _ _ _ M => by rw [hF]; exact v8 _ _ _ _ _ _ _ _ _ _
  have f4 : ∀ a b c M, eVar 4 (F a b c) M = .ok (.d W.d) M := fun _ _ _ M => by rw [hF]; exact v4 _ _ _ _ _ _ _ _ _ _
  have f9 : ∀ (a : Va) b c M, eVar 9 (F (some a) b c) M = .ok a M := fun _ _ _ M => by rw [hF]; exact v9 _ _ _ _ _ _ _ _ _ _
  have f11 : ∀ a b (c : Va) M, eVar 11 (F a b (some c)) M = .ok c M := fun _ _ _ M => by rw [hF]; exact v11 _ _ _ _ _ _ _ _ _ _
  have f12 : ∀ a b c M, eVar 12 (F a b c) M = .ok (.d (.int W.m)) M := fun _ _ _ M => by rw [hF]; exact v12 _ _ _ _ _ _ _ _ _ _
  have f13 : ∀ a b c M, eVar 13 (F a b c) M = .ok (.d (.int W.b)) M := fun _ _ _ M => by rw [hF]; exact v13 _ _ _ _ _ _ _ _ _ _
  have f14 : ∀ a b c M, eVar 14 (F a b c) M = .ok (.d (.int W.e)) M := fun _ _ _ M => by rw [hF]; exact v14 _ _ _ _ _ _ _ _ _ _
  have f15 : ∀ a b c M, eVar 15 (F a b c) M = .ok (.d (KT W.rs)) M := fun _ _ _ M => by rw [hF]; exact v15 _ _ _ _ _ _ _ _ _ _
  have z9 : ∀ a b c y, (F a b c).set 9 y = F y b c := fun _ _ _ _ => by rw [hF]; exact w9 _ _ _ _ _ _ _ _ _ _
  have z10 : ∀ a b c y, (F a b c).set 10 y = F a y c := fun _ _ _ _ => by rw [hF]; exact w10 _ _ _ _ _ _ _ _ _ _
  have z11 : ∀ a b c y, (F a b c).set 11 y = F a b y := fun _ _ _ _ => by rw [hF]; exact w11 _ _ _ _ _ _ _ _ _ _
  have t8' : sSet 8 (eMake "Site" F_Site_init (aCons (eTup (aCons (eOp opAdd (eVar 12) (eC (.int 1))) (aCons (eVar 13) (aCons (eVar 14) (aCons (eVar 15) aNil))))) aNil)) (E R (some (.d W.d)) O5 (some (.d (.int x))) y7 x8 x9 x10 x11) N = .nx (F x9 x10 x11) N1 := by rw [t8, hF]
  obtain ⟨N2, mk2, A2, pr2, l2⟩ := op_make (f := eTup (aCons (eOp opAdd (eVar 12) (eC (.int 1))) (aCons (eVar 12) (aCons (eVar 14) (aCons (eVar 15) aNil))))) (env := F x9 x10 x11) (L := N1) oW5.gd (wb_ev (inc1_ev (f12 _ _ _ _)) (f12 _ _ _ _) (f14 _ _ _ _) (f15 _ _ _ _))
  obtain ⟨N3, mk3, A3, pr3, l3⟩ := op_make (f := eTup (aCons (eOp opAdd (eVar 12) (eC (.int 1))) (aCons (eVar 13) (aCons (eVar 12) (aCons (eVar 15) aNil))))) (env := F x9 x10 x11) (L := N2) oW6.gd (wb_ev (inc1_ev (f12 _ _ _ _)) (f13 _ _ _ _) (f12 _ _ _ _) (f15 _ _ _ _))
  obtain ⟨n2, hn2⟩ : ∃ n, n = N1.length := ⟨_, rfl⟩
  obtain ⟨n3, hn3⟩ : ∃ n, n = N2.length := ⟨_, rfl⟩
  rw [← hn2] at mk2 A2
  rw [← hn3] at mk3 A3
  have pr4 : Pre N3 (N3 ++ [none]) := pre_app _ _
  have B1 := ((A1.pre pr2).pre pr3).pre pr4
  have B2 := (A2.pre pr3).pre pr4
  have B3 := A3.pre pr4
  have nw : ∀ (V : Wb) (k : Nat), OkW V → W3 ≠ V → SAt k (k + 1) V [] (N3 ++ [none]) → ∀ a, b_law_k51_2 ((F a x10 x11).set 9 (some (.loc k))) (N3 ++ [none]) = .nx (F (some (.loc k)) x10 x11) (N3 ++ [none]) := fun V k oV ne hV a => by
    rw [z9]
    unfold b_law_k51_2
    rw [if_f (pg_ev B1 hV oW3 oV (f8 _ _ _ _) (f9 _ _ _ _) (ev_c (x := .bool false)) (by rw [decide_eq_false ne])), u_sNil]
  have lp : forL (tN 9) b_law_k51_2 [.loc n2, .loc n3] (F x9 x10 x11) (N3 ++ [none]) = .nx (F (some (.loc n3)) x10 x11) (N3 ++ [none]) := by
    refine forL_step (by rw [u_tN]) (nw ⟨W.m + 1, W.m, W.e, W.rs⟩ n2 oW5 (fun h => ?_) B2 x9) (forL_step (by rw [u_tN]) (nw ⟨W.m + 1, W.b, W.m, W.rs⟩ n3 oW6 (fun h => ?_) B3 _) rfl)
    · rw [hW3] at h
      injection h with _ h2
      omega
    · rw [hW3] at h
      injection h with _ _ h3
      omega
  have t9 := for_newl (av_cons mk2 (av_cons mk3 av_nil)) (by simp) lp
  obtain ⟨N4, hN4⟩ : ∃ N, N = (N3 ++ [none]).set N3.length (some (.lst [.loc n2, .loc n3])) := ⟨_, rfl⟩
  rw [← hN4] at t9
  obtain ⟨N5, mk5, A5, pr5, l5⟩ := op_make (f := eVar 4) (env := F (some (.loc n3)) x10 x11) (L := N4) g (f4 _ _ _ _)
  have t10 := set_st (i := 10) mk5
  rw [z10] at t10
  obtain ⟨n5, hn5⟩ : ∃ n, n = N4.length := ⟨_, rfl⟩
  rw [← hn5] at t10 A5
  obtain ⟨O7, hO7⟩ : ∃ O : List PyData, O = [W.d, .none, .int 0, .tuple [], rsD W.rs] := ⟨_, rfl⟩
  have t11 : (sSet 11 (eDat (fLst (aCons (eVar 4) (aCons (eC .none) (aCons (eC (.int 0)) (aCons (eTup aNil) (aCons (eDat (fCallB cList (aCons (eVar 15) aNil))) aNil)))))))) (F (some (.loc n3)) (some (.loc n5)) x11) N5 = .nx (F (some (.loc n3)) (some (.loc n5)) (some (.d (.list O7)))) N5 := by
    rw [set_st (lst_al (al_cons (f4 _ _ _ _) (al_cons (ev_c (x := .none)) (al_cons (ev_c (x := .int 0)) (al_cons (tup_al al_nil (by simp)) (al_cons (list_kt (f15 _ _ _ _)) al_nil))))) (by simp)), z11, hO7]
  obtain ⟨D, hD⟩ : ∃ D, D = F (some (.loc n3)) (some (.loc n5)) (some (.d (.list O7))) := ⟨_, rfl⟩
  rw [← hD] at t11
  have t12 : (sIf (tVal (eOp opNe (eDat (fComp (srcV (eVar 11)) (tN 17) (tVal (eOp opNe (eCallB cRepr (aCons (eDat (fLst (aCons (eEqO false "Site" F_Site_eq (eVar 10) (eVar 17)) (aCons (eEqO true "Site" F_Site_eq (eVar 10) (eVar 17)) aNil)))) aNil)) (eC (.str "[False, True]")))) (eVar 17) [17])) (eDat (fLst aNil)))) (sRet (eC (.bool false))) sNil) D N5 = .nx D N5 := by
    have c := fComp_filter (s := srcV (eVar 11)) (g := tN 17) (t := tVal (eOp opNe (eCallB cRepr (aCons (eDat (fLst (aCons (eEqO false "Site" F_Site_eq (eVar 10) (eVar 17)) (aCons (eEqO true "Site" F_Site_eq (eVar 10) (eVar 17)) aNil)))) aNil)) (eC (.str "[False, True]")))) (f := eVar 17) (vs := [17]) (env := D) (L := N5) (xs := O7) (fun _ => false) (srcV_l (by rw [hD]; exact f11 _ _ _ _)) (by rw [hO7]; simp; omega) (fun z hz => by
      have v10 : eVar 10 ((wipeE D [17]).set 17 (some (.d z))) N5 = .ok (.loc n5) N5 := ev_v (by rw [hD, hF, hE]; rfl)
      have v17 : eVar 17 ((wipeE D [17]).set 17 (some (.d z))) N5 = .ok (.d z) N5 := ev_v (by rw [hD, hF, hE]; rfl)
      refine ⟨(wipeE D [17]).set 17 (some (.d z)), by rw [u_tN], ?_, v17⟩
      exact ne_same (x := .str "[False, True]") (FT_repr (lst_al (al_cons (eqO_evD (neg := false) v10 v17 A5) (al_cons (eqO_evD (neg := true) v10 v17 A5) al_nil)) (by simp))) ev_c (smD_str _))
    have fl : ∀ xs : List PyData, xs.filter (fun _ => false) = [] := fun xs => by simp
    rw [fl] at c
    rw [if_f (ne_same (x := .list []) (by rw [u_eDat, c]; rfl) (lst_al al_nil (by simp)) sm_nil), u_sNil]
  refine ⟨some (.loc q), R, some (.d W.d), O5, some (.d (.int x)), y7, some (.loc n), some (.loc n3), some (.loc n5), some (.d (.list O7)), some (.d (.int W.m)), some (.d (.int W.b)), some (.d (.int W.e)), some (.d (KT W.rs)), N5, ?_⟩
  have fin : [some (.scr ns), some (.d (.int (j : Int))), some (.loc q), R, some (.d W.d), O5, some (.d (.int x)), y7, some (.loc n), some (.loc n3), some (.loc n5), some (.d (.list O7)), some (.d (.int W.m)), some (.d (.int W.b)), some (.d (.int W.e)), some (.d (KT W.rs)), x16, x17] = D := by rw [hD, hF, hE]
  rw [fin]
  exact seq_nx t1 (seq_nx t2 (seq_nx t3 (seq_nx t4 (seq_nx t5 (seq_nx t6 (seq_nx t7 (seq_nx t8' (seq_nx t9 (seq_nx t10 (seq_nx t11 t12))))))))))
theorem k51_outer (ns : List Int) (hl : ns.length ≤ 63) (N : Nat) (hN : N ≤ 10) (M : LH) : ∃ env' L', forL (tN 1) b_law_k51_3 (rngV 0 N) [some (.scr ns), none, none, none, none, none, none, none, none, none, none, none, none, none, none, none, none, none] M = .nx env' L' := by
  have loop := forL_inv (g := tN 1) (body := b_law_k51_3) (I := fun ws env M => (∃ a1 a2 a3 a4 a5 a6 a7 a8 a9 a10 a11 a12 a13 a14 a15 a16 a17, env = [some (.scr ns), a1, a2, a3, a4, a5, a6, a7, a8, a9, a10, a11, a12, a13, a14, a15, a16, a17]) ∧ ∀ w ∈ ws, ∃ j : Nat, w = Va.d (.int j) ∧ j < 10) (rngV 0 N) [some (.scr ns), none, none, none, none, none, none, none, none, none, none, none, none, none, none, none, none, none] M
    ⟨⟨_, _, _, _, _, _, _, _, _, _, _, _, _, _, _, _, _, rfl⟩, fun w hw => by
      simp only [rngV, List.mem_map, List.mem_range] at hw
      obtain ⟨j, hj, rfl⟩ := hw
      exact ⟨j, by simp, by omega⟩⟩ ?_
  · obtain ⟨env', L', e, _⟩ := loop
    exact ⟨env', L', e⟩
  · rintro w r env M ⟨⟨a1, a2, a3, a4, a5, a6, a7, a8, a9, a10, a11, a12, a13, a14, a15, a16, a17, rfl⟩, hw⟩
    obtain ⟨j, rfl, hj⟩ := hw w List.mem_cons_self
    obtain ⟨c2, c3, c4, c5, c6, c7, c8, c9, c10, c11, c12, c13, c14, c15, M', t⟩ := k51_turn ns hl j (by omega) (x2 := a2) (x3 := a3) (x4 := a4) (x5 := a5) (x6 := a6) (x7 := a7) (x8 := a8) (x9 := a9) (x10 := a10) (x11 := a11) (x12 := a12) (x13 := a13) (x14 := a14) (x15 := a15) (x16 := a16) (x17 := a17) M
    exact ⟨_, _, rfl, _, M', .inl t, ⟨_, _, _, _, _, _, _, _, _, _, _, _, _, _, _, _, _, rfl⟩, fun w h => hw w (List.mem_cons_of_mem _ h)⟩
theorem law_k51 : ∀ ns : List Int, ns.length ≤ 63 → ∃ L, F_law_k51 [.scr ns] [] = .ok (.d (.bool true)) L := by
  intro ns hl
  obtain ⟨env', L', lp⟩ := k51_outer ns hl (max 2 (min ns.length 8)) (by omega) []
  have en : (max 2 (min (ns.length : Int) 8)).toNat = max 2 (min ns.length 8) := by omega
  have rg : -4611686018427387904 ≤ max 2 (min (ns.length : Int) 8) ∧ max 2 (min (ns.length : Int) 8) < 4611686018427387904 := by omega
  have src : srcR1 (aCons (eCallB cMax2 (aCons (eC (.int 2)) (aCons (eCallB cMin2 (aCons (eCallB cLen (aCons (eVar 0) aNil)) (aCons (eC (.int 8)) aNil))) aNil))) aNil) [some (.scr ns), none, none, none, none, none, none, none, none, none, none, none, none, none, none, none, none, none] [] = .ok (rngV 0 (max 2 (min ns.length 8)), none) [] := by
    rw [← en]
    exact srcR1_int (by simp [-u_cMin2, -u_cMax2, cMin2_eq, cMax2_eq, Va.seq]) rg
  refine ⟨[], fn_out (L' := L') (w := .d (.bool true)) rfl ?_ (settle_d _ _ _ _) (outV_nil _ _)⟩
  show b_law_k51 [some (.scr ns), none, none, none, none, none, none, none, none, none, none, none, none, none, none, none, none, none] [] = _
  refine seq_nx (for_nx src lp) ?_
  simp
end L2.HW
set_option maxHeartbeats 0
open PySem PySem.W PySem.Calls PyProof.Rows
theorem PySem.Challenge.cw_hastyways_k51_sites_beside_one_another_holds : PySem.Challenge.rw_hastyways_k51_sites_beside_one_another.Holds := by
  w_on; o_law
  refine HandSHeadRun.head_any (r := OpenLaw.row PySem.Challenge.rw_hastyways_k51_sites_beside_one_another) (q := view (OpenLaw.row PySem.Challenge.rw_hastyways_k51_sites_beside_one_another).prog [26]) (H := L2.HW.R_k51.hk) (ob := L2.HW.R_k51.ob) (M := 8000) (loose := L2.HW.R_k51.loo) (d := HandSHeadRun.topDef (OpenLaw.row PySem.Challenge.rw_hastyways_k51_sites_beside_one_another).prog 26) (kwd := []) L2.HW.R_k51.ob_eq
    (by kernel_rfl) (fun s => by kernel_rfl) L2.HW.R_k51.run (by kernel_rfl) (by kernel_rfl) (by kernel_rfl) (by rfl) (by first | assumption | decide +kernel) (by decide +kernel) ⟨rfl, rfl, rfl, rfl, rfl, by decide +kernel⟩ ?hw ?hc
  case hw => w_witness2
  case hc =>
    refine L2.HW.walk_hw (l := PySem.Challenge.rw_hastyways_k51_sites_beside_one_another) (n := 63) (k := 10) (x := "_law_script") (Fl := L2.HW.F_law_k51) rfl (by decide) (by kernel_rfl) ⟨rfl, by decide, by decide⟩ L2.HW.law_k51 ?F
    intro w mg fa h Y G hmg0
    obtain ⟨K, KX, c, cE⟩ := Y
    have hmg : mg ("law" : PySem.Str) = some (.ref fa) := by
      have e : (HandSHeadRun.topDef (OpenLaw.row PySem.Challenge.rw_hastyways_k51_sites_beside_one_another).prog 26).name = ("law" : PySem.Str) := by kernel_rfl
      rw [← e]
      exact hmg0
    exact L2.HW.law_end (fun base => L2.HW.R_k51.facts KX G c cE) hmg KX
