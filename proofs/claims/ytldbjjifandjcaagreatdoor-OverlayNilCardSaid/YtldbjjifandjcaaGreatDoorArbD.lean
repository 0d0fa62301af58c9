/-
  A part of the proof: two abstract machines for the code, and what the program does on them. No condition.
-/
import Derived.Test.YtldbjjifandjcaaGreatDoorArbC
set_option linter.all false
namespace aB
open Go ao
def Dd:al:=ar ";<I]RgZqkm^`FgH>a_h?UlAMUKSc"
def De:al:=ar "usXZqf=fEMyL^ccp`m_VlsVgztt"
def GP:al:=ar "cBJe^Y`<lv?kJSUQ:Xy:rB>?_qijZ@UzHnjuvfunlE>;L=U`v^GKvc]G?mrciWTBuRB^h;p;TBUKopGFGInJgWrsrmUdrl"
def GQ:al:=ar "<NjEltYuMyYdV:YsKaRxHUgGmOa<_KrMUzMoCECTI`gnvPTh_V>:hKl:xqTSNgyaA;LH_]qkeAzfefjGh_XtrbeiUPmI:`N@OG;<X^wSK??pB@hxIMRTKVHLBLXg>Jv:eK:kAt^XmepbhtPvhuVrG[>t[rVFZEfa?[Kje`^S@j`wWSOrARJi@YmkUHH"
def Df:al:=ar "<ZeS>SVO[xmgF^AlhBI@[EWRVXRrB_UJ"
def GR:al:=ar "AkUE@qMyrPHBdVKAgC[<EPjEL@k<HI:[N[]E[ERdMmjJpFonmCY[T>EfPv^mZmtKyC`>YRagVSBfoTg_cEyYbPgJUu@jsNJo]bKcClcOihPGrGgoxOIgPCgBTXnYDAyMKWt;ERT>MbmeuwAXdXdwNhdPhSwPRUyuDzY=SurZCyWcCJHqld:XNi^vUxgJs>eE]_@h=w`N^yzcuJOEDOKyhUE>YgovkyFOa<vkO<UU_tkSRhoTZWnzo_AC:XkZ>ivOuMHOcvv[]krjUxUfHkdw^Q>rC?AVvlgnWvNZYlUi;WqziDUWltuQP_Q[Y<VWWAoTlSuSZKIvGOCHukiaoLxjuVNnsa?nPAosgr`NmPLtFJN^jptUkHJWwFYCcHyy"
def Dg:al:=ar "=jmQaX_FJzCv>eAf:yiM]jCBhT`nSwTu`ex=TjCLv;@ai?q=GHItI<`:G_T_s:Zwd"
def GS:al:=ar "<_nORNWZdoB@YbhrzV>nCXszGR>jhk[rlQQ>Pv?mc>WbarfNTtI>NusDE<batbJ=snaAd_Jv_HKDXL=`pkvVmifiGPmoVdiJuvsW[DY<n]R:u^<pCz;TXiJZl`Hb@IGZXVHKQRRLs^oK_cbQc>dART>cYmlOceY^YWQEqho"
def GU:al:=ar "Qk;VjkT>a?G]KhibfOqVh_yiWbqOh><P;yJU:HUZnLOLQ=<tB:;w>bLm?ZmBd`j_^Wjm_jyWe^lkxk[BUcXuoQujJ@QEz=WiZxg"
def GV:al:=ar "<FKDthz:ERXgV;JSWt>rY@Bgx=uSyXZ;qPEztKXN_EqWZ?hOhCeRWk;z_;:oMR=`G[pTUDmKK]zeVmr>SWvMBf?=n>FzOHJ_YVLh=ejISA<GSA?`;W_h[zhk]CfRLjs"
def GW:al:=ar "JQdenZQcAn:^T_@JXu:;Cbnc@hALjjNOofQXERJdIjZ<eI`[<xns[FmmixtKx[KbhPhbkIP`PH;"
def GX:al:=ar ">uo?knTTatoejfdz=NsJ[XUuSlcoiVmDJA?CQuG[@[MEPLuMENF"
def GY:al:=ar "=f@DbIIIk;ajYP?ShHeG]pG"
def GZ:al:=ar "BHygujSIMnFP?U"
def G0:al:=ar "?@@`byfpXxVcZLn?GIDi@]B"
def G1:al:=ar ";@VQFBDFZMIE?CWcNauC<fwxZ[E`rHxlD<uoF:J[phHUznmQ`U`etIAGoY`[XH;Rc<:sWMk^Mcw@DzZAXb^;CDiCNXI>ccRWXTX;oOB?@QMpjPenadMQkd^ALWcnKt"
def G2:al:=ar "MHavgFiV^VquxQJ]emHrhvapLrjW=pXULKDtbkMOS::fKVtVQtYm?Qvx]WA<pcUzUG_CyAWhVhElGAN@wpnPmD?Y`TW?zsZWHj=@TWgAt>L`uGRo;PUIE>IiYXdKxbmnFSQzrAthy:WOictyststkt]priuyWD<HXOIc`IosaGIggUHD`kcTL>kg`LrB:eWi>zI@hvfWCclfybB[Rui`qcZjQ<Zx_ZOXniChKYJQeQSG^aAGY_ywZEv@_z[qtX:XkCPLxMT`tRbVi[O?ItIfk`:StagJbCg:uzod>hGRL:nG@XeqWzySSUhvJSfNzeY=BoZUN_sZdvvbGfVxRhea>pr@cXZAhCEvu]xrLj>C<QPIZcgUVE^pJ?xDj="
def G3:al:=ar "HC;y]mz[[FNrGtb`gfkX::xq`jgtUw:G_tvaUDfnvUgktosbGThYWYAwieDqEeK_Am:[N"
def G4:al:=ar ";>YTG@YtQ]HkhZrVfdNIpterGbM@ZzfVOstRZvRu_bnKbbLQY[aUSCdENGl_MRPUAtavkujNUkyklyaxQdjkgCxjYSQA`eBTzS]GL:j>Alac>w;>UMSwLYqnK@qUXnaL_lNHw;:ZOLAl^ppZqgosOOtQNlu:uy@GImvYmo<bJPEyW@hJpk<?VPv:NBrbN]<K;LI?<dNs]xfWldHOmtyGFbMtmEb]y_oxiVprbB;lCT[rWVpCUhRSzjmQnJ`<TexjZx^CnoOZ<=IopBvHpFRxzELcuxU=sCI=U>gyfHodhaywAf?ivaXTDQBzf`ntdDccENCmhz"
def G5:al:=ar "UaGqKENfaG=sDMwcv_RGQciE]OtmESQMCMJig<NMmJGhiDb?gpkFLKFMZnwvi>=X]Aj:ee[Q]oqElyOLRf^<BfsqbS]rui?MOwsSR_?lQ>eH^aP`_UravRq^QbGBcd@nm:ZMpujvNmTiCMLhWDDj=cpK"
def G6:al:=ar "BT<Kh_atOtL^Dut;n[aoDkgmET;=sZ=QHI^hT<ZxD`iJIxzPYM[>wrYhixIemsNoFfIAcGF=`tyFP;U^SEzXhUZse^xj_X[:ZhravpoyFrOBbLg^IsS;[VlVG^?ONDxHFCEZchbVUFb^S:FsH<UCotQ=kn@FyydzIR@p<[=Lg@>?;IUulFQaXjmYa<skKlu"
def G7:al:=ar "<[UsmR]vF;Rc>?GqgpSlvqgsip`jBW^GHkKJgg:DEEKsXoiUQlp<Z:z`X=GxkU<Pp^gf"
def G8:al:=ar "@Wqp_WHKdSU_RvaYZThWiMF"
def G9:al:=ar "<tLdLFLTfrd:A:lG`jsbRyCA>=zQAYa;]<JvggFBN@FkDJZa;CaiMzBsAI]sDIEka>ahoq^XWWwccCKT`vBJ?zrbUTolfiV<c`VWv>_gSiy^uLb::w^NmPwf`gHWq^GwhPXoNV_O;QflwefG"
def Ha:al:=ar "@t_Hvm]roJGiVhf>Lsf>`X@ZLhS@[_=`ifzn]depRbj`=A=sSGfZ<Tr`GVIHpGr:enps[mEuVUXC=WBqDoqE;nnmXWn<OBjeaW^>PBlBDrrN"
def Hb:al:=ar "DUI<gd:qAmgDiwElxMWbKGxotQ>GspoR^;t_fyHw^r@Gc^WMUw:IvhXvLubrU=;?mEURdCU<UEYFlsgly:DAUdYEBMRPJkvp`Mh^krEy^`_Y<sLAWCF<chIEcvCYgtB>McOb:ttd:m[Jyf"
def Hc:al:=ar "AhCR:ToFHIWDneVM]j>nPh;udbKnAXaSP:Z<Nqrofbq@DngN@O_^oS?dye;Sa?rxKPBfJJL:aAGlNcvy`;WofuIedk_NqQyUQgUK?CU[YOE`xvd:pUlMg]Yu=eVxwEAN^o=MQD@CB=gISZDoHoMGQQVRuel>Iq"
def He:al:=⟨1,[],.skip,some (Prim.total)⟩
def Dh:al:=ar "LBd_I^My]xg>LyCLYFoXQgOprXExOOxS>"
def Di:al:=ar "=yz?W^cG<Ot@[ZocL:wYD]Jx?Po"
def Dj:al:=ar "JjWAFggP;fvprzx[D?xanvpp?="
def Dk:al:=ar ";H>A@T;F`rm^X<HOm^FcxAduCsxhYK=X[o_nauZ=VnZq^K`eNsyNgePEK=ppfJym:kpf]t[:uV@tYv^E`JPoQCXenI;SSCSTk@cn=gBDfQBCNHR=rTeW>:^hFtgEwv"
def Dl:al:=ar "JAg=lRKkXQNiH;XYpRHqP<_UTUZwJdZwT"
def Dm:al:=ar "t@Jrch`BBeJrbmyuA@o]?z"
def Dn:al:=ar "SsC[Uxhl`q[fwhIsMCEXCPNPYfiIwBTr:QKg^_TYkhDXN;Nb<dFFFGj<a<"
def Dp:al:=ar "@WVSS`D[vA`<fvHltqCjNgHwisv;?z[;Zi"
def Dq:al:=ar "IyNBD;mB?JKfaNiI=yVyZJ"
def Dr:al:=ar "@<Xt]`c[xhBpRs>zuHz"
def Ds:al:=ar "rNbHkxmbADWvN<mqhYvNFBNU"
def Dt:al:=ar "?y`UKP`eThfMMe[EmFyoE<QZRiA>^fNheRA<NhVZM_xPhZqUJtA"
def Hf:al:=ar "MPINl:ts=itF@yjCmS]fmv;NAAv@pXa?TPTnVtrRHcS^ki^AXj=KbS]lfvidogXIWYyMQRK[=dOefidrwwt@?M:PxF^CQignyCfDWc?mVZkaHG"
def Hg:al:=ar "<dGaPNuoMkKVVcSmGMyFzW]QAuwNJ>qHv?tZIAitaL>H?@QJ@fAEy`EIG?v@nXGXYfk=qdVZNzAccuL=yBXX<JVr]Kxe"
def Du:al:=ar "TusulwTqRj?SHuuXEXUOyzxQJCtSqrNctJDzEyOMSL<wHMQuqckSw@Y@Bv"
def Hh:al:=ar "@Mvejswvc@xsLrgAUaPUO=k;Jo?hTW_O`LSrPvxbKYWw`badfZQs<f>nPCJBOmUSgfI<[vWHL?tiJXa:AXl^VbZ:N[wgrEyyK;ni^TO`ZFx>[_?klttmwPsJHzZGay^Y_m??vePu<dsL?EJPStSin>sTIQ=AU[kF>S:^YFORBs;"
def Hi:al:=ar "^ud<Bpg:v=]IN`UEYO>:oUBjEtt"
def Hj:al:=ar "EemOPezqNiDM^`DAUoIvTJzQciWwKZyp=YRhoVIZ:W`IwqQPCAUWrTv`qPU^RRi?=TKkB;ParLbbNDksw:CILVftCy[gk>IMYqrYVVyEg"
def Hk:al:=ar "s=hNFIqev@>`BKg_IQGDBA;i<JNmJFyVAUwVgdnlKmWMNJF[s@ZLkYpTxOSj]?iEMgaps@;]jVV_rCaERHFFO]JauGw>@=F;jSoEmoqUkkfJx[]vN=gWcEUQrlIJTbw[deR>CtmbdCg?qiMhC@:[Gsnwmc=CA=;RTT`LelACo_YxzhJxwKaqzw"
def Dv:al:=ar ";KqHRDQgQXfzQdxd]pFb?zWSkG"
def Hl:al:=ar "@b>:e`gKYd:lV>ETS[I]agcQwtFRVGnO]d@GdNHiX_ujXdKLuqB_kEPyxwJOlzxIexaMk^R`yEeP[g@>CZgG;zudGdWtVz`tq`BzbwoU`Yu@"
def Hm:al:=ar ";VcI:ZYtaYnNJwRwS_YRRr_Cs;dQgn@oAuf^m=Vw=YWt[Qu]f[suFOaMVYrwuQi_bCdmvMkNctO_JN>SLX=_AmTu"
def Dw:al:=ar ";irDJti<DjHXYIPl;pOFkQUs=X"
def Hn:al:=ar "BBG>n^uHSyQL;iQMFXcH]zmxJLNxvgZcM"
def Ho:al:=ar ">ZAyO>>dt@Dgd<Ceph@"
def Hq:al:=ar "kGycl[QLbTMoNIugc<["
def Hr:al:=ar ";AieVYaH<ximQBUQ@iWDhIcXDKcljSmRG<"
def Hs:al:=ar "pn:QIPqKU`U<GJM_oJDvc?@Atr[Vu<RpHfC"
def Ht:al:=ar ";MzFQufa<OibadESsL=SxDThmRT<KJByo@"
def Hu:al:=ar "ANhkCD?kwPPU_Sz"
def nR:al:=ar "=kWc=<DUWnlpmWhphRNtNzevY^TGlv;wiuCgDeAH[cJhZHZqKBm_tTr:aDDZuovIgkvpVj^pP]o[ZePiZhGyB]OpQukj`yYrh[?;ReAaeA_qhr]=^;zivA`N>;qxntXK=cU^Pkycxt>sb?STCRICFgWpYhTDS:qiS?eiIa?Ab<xrjLN]t>W=`ILvOgDZZam?^Vx]t^Cr:rsSYqoFaARVLYXSTHQeM=tgyUPR=]xo]yKTFBmzPZSmWX_W=YVqq>F[vLUYdx<JN@NRHpbyz=Ebj[lcEJ>Gd]unwubEugQyUfc?Cl?iJ=lIHu^wu:qC>G<V@BUcaYKUQlOoVW<CQohNKZMF:q<YVTLYVpTY>aJcbgqteKBGz=dt?<cdwk?kq_XICNQ;ti?BjFepEawY^ZSdKmta^BPYQG`hUL_LHrnQ[?:wyz`g<m?NaExsgv@[sML?AHtoBO?qfy@^zylXcYW"
def xo:al:=ar ";BZZchEf;?dWz>@?DAvWijRJbuIW^Tx[][y]TL]fuLu;qrn[:htqrnIG>MNGwGwZRUbiRyd=cdBpvWUVGloqiZfHhgocTUqxOoc<yoe;]FNZADeq[T_nUKp@JkvR<_oNH?:srbQXQRyyOTXNcFdKJQnfD=Gqrjbdzn:Uc=>kPuLmh]t"
def Hv:al:=ar "?>bRL<hV_jVXrk_J>:OSaegQREhnV>w<=XErVALOmIrYND=CWDgkrJe:JV@G@<UM;YZDWxS=CUPUTJqykaV`bW^vLGRMXLA=GEY;gK>@]MyNiRGtDOsFE^IM:[[z[RTrMML@cRr`wMM;shLKeyBMdRTaNCF`iiAot]AAbInW[>fdC@VzHiVJNiJdIrOOSlC;;gnt:[>>[kPfMuTV_eipISgU?XeHHB<YagTEEZnYyHvrjbFNV?OfV"
def Hw:al:=ar "GazvxxjHGjABdLN"
def Hx:al:=ar "sBwyRnXuvwCPC"
def Hy:al:=ar ";QzBqMA[fs<zir`_bPO]Z>ogrMg?wcORndpvRw?rPRJeA[[`Hb<OgQ]BgWaoSR?yxW=ZPxm=EgVRfHNmlKdRCyvz`ZH@^pq"
def Hz:al:=ar "=SaOPs<mRFCYQl<sPbJ"
def HA:al:=ar "^EhP]?qHGjaVQoZVn:GCAw?SEVSVwqSyHeoBF@I:eps`d`R;FhP`xG:PTHcmWBIFatCUYFzMSgEjuROY"
def HB:al:=ar "Fq[IhFl?[BPVByL;pgA[yi[j;<:QPHbP`@pNAzH;N?UPfC_h?i]?I]_u]RNtWgS?[ccMNSZFzZW?cOsqIoYBd[?qT;hk^PO[BfyQIPvWXzvG<aBxRfoef`AWvGpaKyxcUWmGw>jXwf`fkA<JR=tL_puhytwQLQiklTMSEyMnxl>c`tjoQyoW^ECOvlBghvu]jwHxaQymSYA;R=jLHYeU]IfBUjuiRuptmfScNB]jazmlHGpL<pm<`j=G;fFeaRFpnJS^Wt:X]]UNsXPx>JwLnnoaT<LCmk:xyfphD"
def HC:al:=ar ";Xha?TiHBW@zmo_fepmnVz]NGCI"
def HD:al:=ar "i[VTPa?XiQHcjnmoDdpqBt=tDPH^XMaSK@^n^"
def HE:al:=ar "G@YSPRHWrXUe^NpSTStTnz?EX;e]ZGooZdrvMBLl]I[iZLN:BGyno"
def HF:al:=ar "Au=:]TV^xiGq`lyrAVEBLjI`qYhZYe<T`QvhpOjvQUWTfbrl?kGlXpxo^x"
def HG:al:=ar "]`IJNH?P`LjrXlaQl>Hh`vqRbDYhoJ@zF_c:q;:?Wauik@MF_rHvkF:M@Zayugt]_bi:>kZIGer`lhE<_W=keHXIargIJ][IQtt?>;JAm@jFhKBeFeaouBdupWbpwCtoZBxDPYAn:XZ"
def HH:al:=ar "SFjytsCO=yHajhQxigEMzLCYk[Xvun;e>TcUObyyrvzOtSjiHBGx`Air<SQjhLAiQ?wxTFss?O;ckE_XR_:MO;YhtOd^BS[?BB`yY<>XX;o?_AvFmWSDj<u:GXDvTWsUPilp@a?fYrC?ht:DaY:l=lHfQVUW`^ihp:Z"
def HI:al:=ar "RrwTAid?ZxZ<FQUU`_=@RcoJYlkQ^JS^hv:Tb@T[iEORpwG_qpy?uu_calUbQYgClfoqSNnsKLyq=Nv@J^HkWd]]iuMOoz^WNkWUslT_IgDh<sbLxM=jSlubwq:jAV[Zh]EW:yuosmD?VQ>Sr;aFtmHgU?]VUMha=YpXW=EjuUPL<Du"
def HJ:al:=ar "IY_EwI]LoSR@rY<<E_Eb"
def HK:al:=ar "IcbkAzSZ?][cgBzdcy^Qg["
def HL:al:=ar "HYUCTHneu]=_Fh_gyTQjsVrflIt[kDy[^zXX:Av@RXSGUay>=o:NYzahZtIeRQ`:cb?BjNtAychz=oxb_`fUVrq>BeiBJpdEWZKUrlEWTRo=:]RYu<=zl_qs=wHaDgQZyG=o=WETN=>DrnYgGcsbWH?oyXdLxJUhKy]WLuwbA^hrTFnmch?gg@dQ[Dx:f^`hWfzS=rDeJbN@@mrEz>Vf_E"
def HM:al:=ar "vFx_JK`x=SBK?h@>qQerSYJaHuY=FE<]ZAST>tsTnR;kdpmKwdRBbDj_[Fh=L=emm_[YexNyNkbQZYpsposPt@YGwOl_p;MMbYSSNyMmy;<cn`mcxdl]S=ZL@oXh`aEfKfTjagTF@RhcxJVJoefZVBPf"
def HN:al:=ar ";aBRbyCOQGlkmXYyRtBZ^j"
def HO:al:=ar "CnUNWB;u^DOYJCLVgs?MQu=ouK<AsNyBtUMVApF>F;ZGqqE^VB^e]UL<cnLCtbw`@Sj_;LW_FBb?=eLo[WNAv;aOXnZgXGB=nxSCWXC:_cYR`<<rkcBxcLSFNgfjLInvKDM[=YBk?<poDBN=:T[^]U`?r"
def HP:al:=ar "O]JMzJ_aZb:ee<M[SWAwfteBnxBk`v?CgjJrzNp^mIVsvQbLBasFhZsDrEEGrfzXvNGCdNCFlqDTCnfPiAUG;N_QxeGeWgN[mKdeiulBieT<IkK<skKMEunuawdp_Kf:Uyw]XDWIQ@a`_KB?kHCL:j^duZrGEoRnYF?xKeLdkDCPsExY:npYaZb"
def HQ:al:=ar "<fGEwRJ<<FPvrT_PF@oNXoVL`HEwa<j;K@VZh"
def HR:al:=ar ";FMe>ctOBFrtjdtResGHcRXVTe?o:@Nw]NjE]StRL"
def HS:al:=ar "H=Rgb>DOHfQrzWXLsHBccPMncVsIeLhQ`:ee`xuKtJHSi<iekUq>XNH?K_]D?FXKvYAjiKVKY"
def HT:al:=ar "]Dxrjxe[DQvvyrJ:FXUID?Z]yDMwoERSGOTDuPD<nGOKsSGlASg[LyP:`GTJ]WBjc^K[XgfqeW`dO]HfhcIt_OfYlNYPuQ::rR`gpSeG>raI=KDkQmI`lSHq;B>]YQYuvhnEhlHx@?"
def HU:al:=ar "BlrvKl`JZ<rU@IL"
def HV:al:=ar "BKTvmDyxh@=<`IjL>XvWagRWKFJj[h:Szwi]OD?tBQH@sfirGFNVg^TarVz@fBOtEnZqh;cdl]_EN?BMG?z_W_[kIz?a]u[CTx`EHUfR;XxoakEOQ^h"
def HW:al:=ar "FMurVhtSWhf@avdfvmIjATeYXmBuvYWucby=^qwUdPGhWYU;kzImRVUVf^=p:fWTWsyXv^_b^JmG><XapG>a`qgamQ?s^J@="
def HX:al:=ar "KxffXXA`ZOTFsQfyeVbTTjq@<XQFTHAc>sHhK]sS@;gJLwRlIc=LkNpDwAzi:YrHKZqj:pDTaN`mrMP;MhAbF:folOwTUOUChC;Y`RqWkDg@nXMD:>mVA<a`JiM:gfTD:Vyd;hGmuJy"
def HY:al:=ar "W;yFU_MTpQI<^SbSY@wyA>SNmuYgRygc=ogyhedB@ekc:yr]rO]KyQvy`oIf;E>DbrfTRONh=B=RvfHIFhYLn>hwppgM>N=YainQTYVWWhzqpqSc=PFqDlbduEu`aoNz"
def HZ:al:=ar "PD]YEqZxWdVuupJk?[DgJU<<S`l;>=cYyivpvwV"
def H0:al:=ar ";azhOQy[YsNbls]EHPU=hGEW[Cr`pphtLl"
def H3:al:=ar "i:`i:x;gn]cE]CAkCKRxZMTvs?oCANX<vnEKnMlCs@DvCAfgQfZti[>EiN^b]XJ^`QqD@@wEqVAa=EKvC:vkVEqmK[>qC:Os_ygy<l>g:O^<[F:u^^Oy>ZV;tndPizPJsXWMuR=WmrcG"
def H4:al:=ar "lDgK:?VSR<BZEfqSaXaWNP=l>WFnOB_H;[ZQH]szBAAZB>S@x[xeZIRbuxzI;QwZXho>dRFIbLzuYWidul>fhuPFyVDIOqXSLI:`o`S^;acnO@vF[hcsmo<EF^JihFvFVuk^j^;lERfj<cESOWGLtnXEluzApv:qtMQA"
def H5:al:=ar "<i=Jh:iookks=Sat"
def H6:al:=⟨1,[],.skip,some (Prim.clone 4)⟩
def H7:al:=⟨1,[],.skip,some (Prim.clone 3)⟩
def H8:al:=⟨1,[],.skip,some (Prim.clone 3)⟩
def H9:al:=⟨1,[],.skip,some (Prim.clone 1)⟩
def JC:al:=⟨1,[],.skip,some (Prim.clone 1)⟩
def Ia:al:=ar "@veF><;x[tO]NPTc"
def Ib:al:=ar "@veF><;x[tO]NPTf"
def Ic:al:=ar "JkiGZyKAeqJc<WjmWCrQHxNz?S=OCyr<GXcC^KuyAwfNikrsp[O;Ye]JQZXlRfxlg_eOf]Ll;DVQm`wkD?>bzg]ykAVeIzlJYdV:"
def Ie:al:=ar "A`<AlE^uOu;Qpow?kMiDhpNTGP>gkAo::ul;:^V:BW@^=>e?bEHdx"
def Ig:al:=ar "?FwZFVapZbgcHp]BQY:eG;orp^GxpL^;^HbxfHcS?GKYSaZR[iGU"
def Ih:al:=ar "=;rEcWJP>qq=WsnNES`mf?m["
def Ii:al:=⟨1,[],.skip,some (Prim.sorted 333)⟩
def Ij:al:=ar "NdDdl;sDH?Z_sFil?uhEpwZnY>v[cI`pphlZDwCVOo@Eo?g^r<L_CBPozStaNQZtH^hlky?RvXo>SRTk>rqXxzx[M:Fjta=yNV=utF:^FpvJKPXZoeR_GRL`vHo"
def Ik:al:=ar "EP@XoOEDsuC:t_VkcUnOkjhngLS>u:ieU`^VbWlC:A]UG@Ifm;ga_<apmI?<U<ZUsB]tCKa>Ct_=[LDbgjVlgt>PC_SWbvuwjsp>cnI:leXPaV^HFinUvw[zMmopB;ekitEoJzo_UNk=a^ivU?^zf:AlVJANiLiLU;bllw^bZ_hCPzZBrUMMHSlYq`pLV_XMsHB^nQV[>MKbrPMcqN^Fj<[CZWCaNF@`FEWO`xAqt>iCnxP:I?GUbNQiXNKdbMhl_eOSBxnvmnwlxPD=q;>YtdYXYV?pxdToIOS=hEfUWqf]G=SDmiEGp`=GUoQ]y<a<XUCV_GsF:cOhIk"
end aB
namespace aB
open Go Go.RowKit ao
section
variable {ν:Nat->Nat} {P:Program} {k:Cx}
structure ca (ν:Nat->Nat) (k:Cx) (nt:Nat) (g:Gh) (a:Act) (s:St):Prop where
 h:g.h=s.hp
 r:Rel ν k g
 f:eU ν g a.tmps s.fr
 n:nt<=a.tmps.size
 d:a.defers=[]
theorem ca.ju {nt:Nat} {g:Gh} {a:Act} {s s':St} (m:ca ν k nt g a s) (e:SE s s'):ca ν k nt g a s':=
 ⟨m.h.trans e.2.1,m.r,λt x ht=>m.f t x ((e.1 t).trans ht),m.n,m.d⟩
theorem ca.put {nt:Nat} {g g':Gh} {a:Act} {s:St} (m:ca ν k nt g a s) {h':Hp} {dN:Nat} {v:Value} {y:AV} {d:Option Nat} (hd:∀t,d=some t->t<nt) (hh:g'.h=h') (r':Rel ν k g') (hm:aV ν g g')
  (hv:RA ν g' v y):ca ν k nt g' (a.put d v) { fr:=bh s.fr d y,hp:=h',nx:=dN }:=by
 refine⟨hh,r',?_,?_,?_⟩
 ·cases d with
  |none=>exact m.f.mono hm
  |some d=>
   intro t x ht;simp only[bh,aQ]at ht;have aT:d<a.tmps.size:=Nat.lt_of_lt_of_le (hd d rfl) m.n;by_cases uy:d=t
   ·subst uy;simp only[if_true,Option.some.injEq]at ht;subst ht;exact⟨v,by simp[Act.put,aT],hv⟩
   ·rw[if_neg uy]at ht;obtain⟨u,h1,h2⟩:=m.f t x ht;exact⟨u,by simp[Act.put,Array.getElem?_setIfInBounds_ne uy,h1],hm _ _ h2⟩
 ·cases d with
  |none=>exact m.n
  |some d=>simpa[Act.put]using m.n
 ·cases d with
  |none=>exact m.d
  |some d=>exact m.d
def eo (P:Program) (ν:Nat->Nat) (nt:Nat) (ops:Array Oper) (o:Oper) (io:au):Bool:=
 o.dst==io.dst&&(match io.dst with | some d=>Nat.blt d nt | none=>true) &&
 (match o.guard,io.gd with | none,none=>true | some (j,b),some (t,c)=>b==c&&(ops[j]?).bind (·.dst)==some t | _,_=>false)&&rj P ν o.op io.op
theorem iY {g:Gh} {a:Act} {s:St} {nt:Nat} (m:ca ν k nt g a s) {ops:Array Oper} {o:Oper} {io:au} (hc:eo P ν nt ops o io=true) {b:Bool} (h:bG s.fr io.gd=some b) :
  Region.wanted o (yielded ops a.tmps)=b:=by
 simp only[eo,Bool.and_eq_true]at hc;obtain⟨⟨_,hg⟩,_⟩:=hc;unfold Region.wanted;split at hg
 ·rename_i h1 h2;rw[h2]at h;simp only[bG,Option.some.injEq]at h;rw[h1];exact h
 ·rename_i j want t c h1 h2;simp only[Bool.and_eq_true,beq_iff_eq]at hg;obtain⟨rfl,hj⟩:=hg;rw[h2]at h;simp only[h1,yielded,hj,Option.bind_some];simp only[bG]at h;split at h
  ·rename_i c' cf;obtain⟨v,hv,hR⟩:=m.f _ _ cf;cases hR with
   |iv hI=>cases hI with
    |bool=>simp only[Option.some.injEq]at h;subst h;rw[hv];cases c'<;>cases want<;>rfl
  ·rename_i cf;obtain⟨v,hv,hR⟩:=m.f _ _ cf;cases hR with
   |aR hn _=>simp only[Option.some.injEq]at h;subst h;rw[hv];rfl
  ·cases h
 ·cases hg
theorem gg {c1:bS} {cx:cA} (hs:ao.bq ν P c1) (hx:bq ν P cx) {nt:Nat} {ops:Array Oper} {o:Oper} {io:au} (hc:eo P ν nt ops o io=true) {g:Gh} {a:Act} {s s1:St} (m:ca ν k nt g a s)
  {slot:Nat} (e:step c1 cx slot io s=some s1) {next:Act->World->Prop} {Q:Exit->Act->World->Prop} (hn:∀g' a',ca ν k nt g' a' s1->aV ν g g'->next a' g'.w) :
  if Region.wanted o (yielded ops a.tmps) then o.wp P a g.w next Q else next (a.put o.dst undef) g.w:=by
 have bJ:=hc;simp only[eo,Bool.and_eq_true,beq_iff_eq]at bJ;obtain⟨⟨⟨hd,aT⟩, -⟩,kY⟩:=bJ;have nZ:∀t,io.dst=some t->t<nt:=by
  intro t ht;rw[ht]at aT;simpa[Nat.blt_eq]using aT
 unfold step at e;split at e
 ·rename_i hw;rw[iY m hc hw,if_pos rfl];cases u9:dI io.op with
  |some fa=>
   rw[u9]at e;simp only[]at e;obtain⟨f',kx⟩:=fa;have ry:io.op = .nJ f' kx:=by
    generalize io.op=op at u9;cases op<;>simp[dI]at u9;obtain⟨rfl,rfl⟩:=u9;rfl
   rw[ry]at kY;unfold rj at kY;simp only[]at kY;split at kY
   case h_2=>cases kY
   rename_i fo aS cz ho;simp only[Bool.and_eq_true]at kY;have nY:=ak m.f kY.1;have hR:=fZ m.f kY.2;cases dw:callee (ev s.fr f')with
   |none=>rw[dw]at e;cases e
   |some q=>
    rw[dw]at e;simp only[]at e;cases hr:cx q.1 (q.2.1++(kx.map (ev s.fr)++q.2.2)) s.hp s.nx with
    |none=>rw[hr]at e;cases e
    |some p=>
     obtain⟨y,h1,n1⟩:=p;rw[hr]at e;simp only[Option.some.injEq]at e;subst e;obtain⟨first,ax,yF,jQ,eM⟩:=fA dw nY;obtain⟨⟨fn,dp,hb,rq⟩,bx⟩:=hx _ _ _ _ _ _ _ hr;refine iI ho (h':=h1) (y:=y) ⟨q.1,first,ax,fn,yF,dp,hb,rq,bx k g _ m.h m.r (qE jQ eM hR)⟩ λg' v hh r' hm kI=>?_
     rw[hd];exact hn g' _ (m.put nZ hh r' hm kI) hm
  |none=>
   rw[u9]at e;simp only[]at e;cases hr:(bk c1 slot (ev s.fr) io.op).run s.hp with
   |none=>rw[hr]at e;cases e
   |some p=>
    obtain⟨y,h1⟩:=p;rw[hr]at e;simp only[Option.some.injEq]at e;subst e;refine xa hs kY m.r m.f (slot:=slot) (y:=y) (h':=h1) (by rw[m.h];exact hr) λg' v hh r' hm hR=>?_
    rw[hd];exact hn g' _ (m.put nZ hh r' hm hR) hm
 ·rename_i hw;rw[iY m hc hw,if_neg (by simp)];simp only[Option.some.injEq]at e;subst e;rw[hd];exact hn g _ (m.put nZ m.h m.r (.refl ν g) (.aR rfl λj v c h=>by simp at h)) (.refl ν g)
 ·cases e
def cQ (P:Program) (ν:Nat->Nat) (nt:Nat) (ops:Array Oper):List Oper->List au->Bool
 |[],[]=>true
 |o::r,io::ir=>eo P ν nt ops o io&&cQ P ν nt ops r ir
 |_,_=>false
theorem fD {nt:Nat} {ops:Array Oper}:∀{l:List Oper} {il:List au},cQ P ν nt ops l il=true->l.length=il.length/\∀(i:Nat) (o:Oper) (io:au),l[i]?=some o->il[i]?=some io->eo P ν nt ops o io=true
 |[],[],_=>⟨rfl,λi o io h=>by simp at h⟩
 |o::r,io::ir,h=>by
  simp only[cQ,Bool.and_eq_true]at h;obtain⟨h1,h2⟩:=fD h.2;refine⟨by simp[h1],λi o' yH e1 e2=>?_⟩;cases i with
  |zero=>simp at e1 e2;subst e1 e2;exact h.1
  |succ i=>exact h2 i o' yH (by simpa using e1) (by simpa using e2)
 |[],_::_,h=>by simp[cQ]at h
 |_::_,[],h=>by simp[cQ]at h
theorem lF {c1:bS} {cx:cA} (hs:ao.bq ν P c1) (hx:bq ν P cx) {nt:Nat} {ops:Array Oper} {Q:Exit->Act->World->Prop}:∀(l:List Oper) (il:List au) (slot:Nat) (g:Gh) (a:Act) (s s':St),
  cQ P ν nt ops l il=true->aX c1 cx il slot s=some s'->ca ν k nt g a s->(∀g' a',ca ν k nt g' a' s'->aV ν g g'->Q .normal a' g'.w)->wpList P ops Q l a g.w
 |[],[],slot,g,a,s,s',_,e,m,hQ=>by
  simp only[aX,Option.some.injEq]at e;subst e;exact wpList_nil (hQ g a m (.refl ν g))
 |o::r,io::ir,slot,g,a,s,s',hc,e,m,hQ=>by
  simp only[cQ,Bool.and_eq_true]at hc;simp only[aX]at e;cases h1:step c1 cx slot io s with
  |none=>rw[h1]at e;cases e
  |some s1=>
   rw[h1]at e;exact wpList_step λK hK=>gg hs hx hc.1 m h1 λg' a' m' hm=>hK _ _ (lF hs hx r ir _ g' a' s1 s' hc.2 e m' λc6 oP oQ dv=>hQ c6 oP oQ (hm.trans dv))
 |[],_::_,_,_,_,_,_,hc,_,_,_=>by simp[cQ]at hc
 |_::_,[],_,_,_,_,_,hc,_,_,_=>by simp[cQ]at hc
def tag:Nat->List au->List bn->List (Nat×au×bn)
 |i,o::r,f::fs=>(i,o,f)::tag (i+1) r fs
 |_,_,_=>[]
theorem eB.mZ {c1:bS} {cx:cA} {s0:Nat}:∀(il:List au) (i:Nat) (s s':St) (fs:List bn),bC c1 cx il (s0+i) s=some (s',fs)->
  eB c1 cx s0 (tag i il fs) s s'/\fs.length=il.length
 |[],i,s,s',fs,e=>by
  simp only[bC,Option.some.injEq,Prod.mk.injEq]at e;obtain⟨rfl,rfl⟩:=e;exact⟨.nil (.refl _),rfl⟩
 |o::r,i,s,s',fs,e=>by
  simp only[bC]at e;cases h1:step c1 cx (s0+i) o s with
  |none=>rw[h1]at e;cases e
  |some s1=>
   rw[h1]at e;simp only[]at e;cases h2:bC c1 cx r (s0+i+1) s1 with
   |none=>rw[h2]at e;cases e
   |some p=>
    rw[h2]at e;simp only[Option.some.injEq,Prod.mk.injEq]at e;obtain⟨rfl,rfl⟩:=e;obtain⟨q1,q2⟩:=eB.mZ (s0:=s0) r (i+1) s1 p.1 p.2 h2;exact⟨.cons (kP.of h1) q1,by simp only[List.length_cons];exact congrArg (·+ 1) q2⟩
theorem kj:∀{il:List au} {fs:List bn} {i:Nat} {x:Nat×au×bn},x ∈ tag i il fs->i<=x.1/\il[x.1 - i]?=some x.2.1/\fs[x.1 - i]?=some x.2.2
 |[],fs,i,x,h=>by simp[tag]at h
 |_::_,[],i,x,h=>by simp[tag]at h
 |o::r,f::fs,i,x,h=>by
  simp only[tag,List.mem_cons]at h;rcases h with rfl | h
  ·simp
  ·obtain⟨h1,h2,h3⟩:=kj h;have:x.1 - i=(x.1 - (i+1))+1:=by omega
   exact⟨by omega,by rw[this];simpa using h2,by rw[this];simpa using h3⟩
theorem m7:∀{il:List au} {fs:List bn} {i j:Nat} {o:au},fs.length=il.length->il[j]?=some o->∃x ∈ tag i il fs,x.1=i+j
 |[],fs,i,j,o,_,h=>by simp at h
 |_::_,[],i,j,o,hl,_=>by simp at hl
 |o'::r,f::fs,i,j,o,hl,h=>by
  cases j with
  |zero=>exact⟨_,List.mem_cons_self ..,rfl⟩
  |succ j=>
   obtain⟨x,h1,h2⟩:=m7 (i:=i+1) (fs:=fs) (by simpa using hl) (by simpa using h);exact⟨x,List.mem_cons_of_mem _ h1,by omega⟩
def iL (x:au) (i:Nat):List au->Bool
 |[]=>true
 |y::r=>(y.iU.contains i||gf x y)&&iL x i r
def fE:Nat->List au->Bool
 |_,[]=>true
 |i,x::r=>iL x i r&&fE (i+1) r
theorem iq {x:au} {i:Nat}:∀{r:List au},iL x i r=true->∀y ∈ r,i ∉ y.iU->gf x y=true
 |[],_,y,hy,_=>by simp at hy
 |z::r,h,y,hy,hi=>by
  simp only[iL,Bool.and_eq_true,Bool.or_eq_true,List.contains_iff_mem]at h;rcases List.mem_cons.1 hy with rfl | hy
  ·exact h.1.resolve_left hi
  ·exact iq h.2 y hy hi
theorem iZ {x:bn} {i:Nat}:∀{fs:List bn} {cs:List (List Nat)},ed x i fs cs=true->∀(j:Nat) (f:bn) (c:List Nat),fs[j]?=some f->cs[j]?=some c->i ∉ c->c9 x f=false
 |[],cs,_,j,f,c,h,_,_=>by simp at h
 |_::_,[],_,j,f,c,_,h,_=>by simp at h
 |f'::fs,c'::cs,h,j,f,c,h1,h2,hi=>by
  simp only[ed,Bool.and_eq_true,Bool.or_eq_true,Bool.not_eq_true',List.contains_iff_mem]at h;cases j with
  |zero=>simp at h1 h2;subst h1 h2;exact h.1.resolve_right hi
  |succ j=>exact iZ h.2 j f c (by simpa using h1) (by simpa using h2) hi
def PW (x y:Nat×au×bn):Prop:=x.1<y.1/\(x.1 ∉ y.2.1.iU->ru x y)
theorem oR:∀(il:List au) (fs:List bn) (i:Nat),fE i il=true->(cC fs i (il.map (·.iU))=true\/∀f ∈ fs,lS f=true)->(tag i il fs).Pairwise PW
 |[],fs,i,_,_=>by simp[tag]
 |_::_,[],i,_,_=>by simp[tag]
 |o::r,f::fs,i,hT,hF=>by
  simp only[fE,Bool.and_eq_true]at hT;simp only[tag,List.pairwise_cons];refine⟨λy hy=>?_,oR r fs (i+1) hT.2 ?_⟩
  ·obtain⟨h1,h2,h3⟩:=kj hy;refine⟨by show i<y.1;omega,λhi=>⟨iq hT.1 _ (List.mem_of_getElem? h2) hi,?_⟩⟩;rcases hF with hF | hF
   ·simp only[List.map_cons,cC,Bool.and_eq_true]at hF;exact iZ hF.1 _ _ y.2.1.iU h3 (by simp[h2]) hi
   ·have e1:=hF f (List.mem_cons_self ..);have e2:=hF _ (List.mem_cons_of_mem _ (List.mem_of_getElem? h3));cases f with
    |c=>simp[lS]at e1
    |m f=>
     generalize y.2.2=q at e2;cases q with
     |c=>simp[lS]at e2
     |m q=>simp[lS]at e1 e2;simp[c9,meets,e1,e2]
  ·rcases hF with hF | hF
   ·simp only[List.map_cons,cC,Bool.and_eq_true]at hF;exact .inl hF.2
   ·exact .inr λf' CJ=>hF f' (List.mem_cons_of_mem _ CJ)
def nG (bA:List au) (i:Nat) (o:Oper) (io:au):Bool:=
 o.after.toList.all (λe=>!Region.binds .any e||Nat.blt e.on i) &&
 io.iU.all λa=>o.after.toList.any λe=>Region.binds .any e&&(e.on==a||(match bA[e.on]? with | some x=>x.iU.contains a | none=>false))
def jT (bA:List au):Nat->List Oper->List au->Bool
 |i,o::r,io::ir=>nG bA i o io&&jT bA (i+1) r ir
 |_,_,_=>true
theorem iu {bA:List au}:∀{l:List Oper} {il:List au} {i:Nat},jT bA i l il=true->∀(j:Nat) (o:Oper) (io:au),l[j]?=some o->il[j]?=some io->nG bA (i+j) o io=true
 |[],_,_,_,j,o,io,h,_=>by simp at h
 |_::_,[],_,_,j,o,io,_,h=>by simp at h
 |o'::r,yH::ir,i,h,j,o,io,h1,h2=>by
  simp only[jT,Bool.and_eq_true]at h;cases j with
  |zero=>simp at h1 h2;subst h1 h2;exact h.1
  |succ j=>have:=iu h.2 j o io (by simpa using h1) (by simpa using h2);rwa [show i+1+j=i+(j+1) by omega]at this
structure Rest (ops:Array Oper) (bA:List au) (L:List (Nat×au×bn)) (listed:Array Bool):Prop where
 size:listed.size=ops.size
 left:∀x ∈ L,x.1<ops.size/\listed[x.1]?=some false/\bA[x.1]?=some x.2.1
 all:∀(i:Nat),listed[i]?=some false->∃x ∈ L,x.1=i
 down:∀(i:Nat) (io:au),bA[i]?=some io->listed[i]?=some true->∀a ∈ io.iU,listed[a]?=some true
 pw:L.Pairwise PW
theorem sD {c1:bS} {cx:cA} (hs:ao.bq ν P c1) (JD:bq ν P cx) (mw:eO cx) {nt:Nat} {ops:Array Oper} {bA:List au} {Q:Exit->Act->World->Prop} {s0:Nat} {s':St}
  (hc:cQ P ν nt ops ops.toList bA=true) (uz:jT bA 0 ops.toList bA=true):∀(n:Nat) (L:List (Nat×au×bn)) (listed:Array Bool) (g:Gh) (a:Act) (s:St),L.length=n->Rest ops bA L listed->
  eB c1 cx s0 L s s'->ca ν k nt g a s->(∀g' a',ca ν k nt g' a' s'->aV ν g g'->Q .normal a' g'.w)->wpAny P .any ops Q n listed a g.w:=by
 intro n
 induction n with
 |zero=>
  intro L listed g a s hn hl hr m hQ;cases L with
  |cons=>simp at hn
  |nil=>
   refine⟨?_,?_⟩
   ·refine List.eq_nil_iff_forall_not_mem.2 λj hj=>?_
    obtain⟨h1,o,ho, -⟩:=mem_ready.1 hj;have yI:j<listed.size:=by rw[hl.size];exact(Array.getElem?_eq_some_iff.1 ho).1
    obtain⟨x,hx, -⟩:=hl.all j (by simp[Array.getD,yI]at h1;simp[yI,h1]);cases hx
   ·cases hr with
    |nil h=>exact hQ g a (m.ju h) (.refl ν g)
 |succ n ih=>
  intro L listed g a s hn hl hr m hQ;have ij:∀{j:Nat} {b:Bool} {d:Bool},listed.getD j d=b->b≠d->listed[j]?=some b:=by
   intro j b d h hb;by_cases hj:j<listed.size
   ·simp[Array.getD,hj]at h;simp[hj,h]
   ·simp[Array.getD,hj]at h;exact absurd h.symm hb
  obtain⟨hlen,cf⟩:=fD hc;refine⟨λh0=>?_,λj hj=>?_⟩
  ·exfalso;cases L with
   |nil=>simp at hn
   |cons x r=>
    obtain⟨h1,h2,h3⟩:=hl.left x (List.mem_cons_self ..);have:x.1 ∈ Region.ready .any ops listed:=by
     have ho:ops[x.1]?=some ops[x.1]:=by simp[h1]
     refine mem_ready.2 ⟨by simp[Array.getD_eq_getD_getElem?,h2],_,ho,λe he hb=>?_⟩;have hA:=iu uz x.1 ops[x.1] x.2.1 (by simp[h1]) h3;simp only[nG,Bool.and_eq_true,List.all_eq_true,Nat.zero_add]at hA;have aT:=hA.1 e (by simpa using he);simp only[hb,Bool.not_true,Bool.false_or,Nat.blt_eq]at aT;have uA:e.on<listed.size:=by rw[hl.size];omega
     cases hv:listed[e.on]with
     |true=>simp[uA,hv]
     |false=>
      obtain⟨y,hy,mT⟩:=hl.all e.on (by simp[uA,hv]);rcases List.mem_cons.1 hy with rfl | hy
      ·omega
      ·have:=(List.pairwise_cons.1 hl.pw).1 y hy;have:=this.1;omega
    rw[h0]at this;cases this
  ·obtain⟨h1,o,ho,xc⟩:=mem_ready.1 hj;obtain⟨x,hx,rfl⟩:=hl.all j (ij h1 (by simp));obtain⟨L1,L2,rfl⟩:=List.append_of_mem hx;obtain⟨aT,oS,uB⟩:=hl.left x hx;have hA:=iu uz x.1 o x.2.1 (by simpa using ho) uB;simp only[nG,Bool.and_eq_true,List.all_eq_true,List.any_eq_true,Nat.zero_add]at hA;have nZ:∀b ∈ x.2.1.iU,listed[b]?=some true:=by
    intro b hb;obtain⟨e,he,h2,h3⟩:=hA.2 b hb;have gQ:=ij (xc e (by simpa using he) h2) (by simp);simp only[Bool.or_eq_true,beq_iff_eq]at h3;rcases h3 with h3 | h3
    ·subst h3;exact gQ
    ·split at h3
     ·rename_i y hy;exact hl.down e.on y hy gQ b (by simpa using h3)
     ·cases h3
   have kM:=List.pairwise_append.1 hl.pw;have uC:=List.pairwise_cons.1 kM.2.1;obtain⟨s1,Db,r1⟩:=eB.front mw L1 s hr λy hy=>by
    obtain⟨q1,q2⟩:=kM.2.2 y hy x (List.mem_cons_self ..);refine q2 λhb=>?_
    have:=nZ _ hb;rw[(hl.left y (by simp[hy])).2.1]at this;cases this
   have e1:=Db.step mw;have jL:Rest ops bA (L1++L2) (listed.setIfInBounds x.1 true):=by
    have bF:∀y ∈ L1++L2,x.1≠y.1:=by
     intro y hy;rcases List.mem_append.1 hy with hy | hy
     ·have:=(kM.2.2 y hy x (List.mem_cons_self ..)).1;omega
     ·have:=(uC.1 y hy).1;omega
    have oT:x.1<listed.size:=by rw[hl.size];exact aT
    refine⟨by simpa using hl.size,λy hy=>?_,λi hi=>?_,λi io ry hi b hb=>?_,List.pairwise_append.2 ⟨kM.1,uC.2,λy hy z hz=>kM.2.2 y hy z (List.mem_cons_of_mem _ hz)⟩⟩
    ·obtain⟨q1,q2,q3⟩:=hl.left y (by rcases List.mem_append.1 hy with h | h<;>simp[h]);exact⟨q1,by rw[Array.getElem?_setIfInBounds_ne (bF y hy)];exact q2,q3⟩
    ·by_cases iQ:x.1=i
     ·subst iQ;simp[oT]at hi
     ·rw[Array.getElem?_setIfInBounds_ne iQ]at hi;obtain⟨y,hy,yJ⟩:=hl.all i hi;refine⟨y,?_,yJ⟩;simp only[List.mem_append,List.mem_cons]at hy ⊢;rcases hy with h | rfl | h
      ·exact .inl h
      ·exact absurd yJ iQ
      ·exact .inr h
    ·have oI:∀{b:Nat},listed[b]?=some true->(listed.setIfInBounds x.1 true)[b]?=some true:=by
      intro b hb;by_cases yK:x.1=b
      ·subst yK;simp[oT]
      ·rw[Array.getElem?_setIfInBounds_ne yK];exact hb
     by_cases iQ:x.1=i
     ·subst iQ;rw[uB]at ry;cases ry;exact oI (nZ b hb)
     ·rw[Array.getElem?_setIfInBounds_ne iQ]at hi;exact oI (hl.down i io ry hi b hb)
   unfold wpOp;simp only[ho];have hw:=gg (Q:=Q) hs JD (cf x.1 o x.2.1 (by simpa using ho) uB) m e1 (next:=wpAny P .any ops Q n (listed.setIfInBounds x.1 true)) λg' a' m' hm=>
    ih (L1++L2) _ g' a' s1 (by simp at hn ⊢;omega) jL r1 m' λc6 oP oQ dv=>hQ c6 oP oQ (hm.trans dv)
   split
   ·rename_i h;rw[if_pos h]at hw;exact .inl hw
   ·rename_i h;rw[if_neg h]at hw;exact hw
def gW (P:Program) (ν:Nat->Nat) (nt:Nat) (draw:Bool) (ops:Array Oper) (bA:List au):Bool:=
 cQ P ν nt ops ops.toList bA&&(!draw||(jT bA 0 ops.toList bA&&fE 0 bA))
theorem fF:∀(keep:List Nat) (fr:Fr) (t:Nat) (x:AV),get (bb keep fr) t=some x->get fr t=some x
 |[],fr,t,x,h=>by simp[bb,dM]at h
 |k::r,fr,t,x,h=>by
  simp only[bb]at h;cases hk:get fr k with
  |none=>rw[hk]at h;exact fF r fr t x h
  |some y=>
   rw[hk]at h;simp only[bQ]at h;split at h
   ·rename_i h0;subst h0;rw[hk];exact h
   ·exact fF r fr t x h
theorem ca.keep {nt:Nat} {g:Gh} {a:Act} {s:St} (m:ca ν k nt g a s) (keep:List Nat):ca ν k nt g a { s with fr:=bb keep s.fr }:=
 ⟨m.h,m.r,λt x ht=>m.f t x (fF keep s.fr t x ht),m.n,m.d⟩
theorem ca.next {nt:Nat} {g:Gh} {a:Act} {s:St} (m:ca ν k nt g a s) (n:Nat):ca ν k nt g a { s with nx:=n }:=⟨m.h,m.r,m.f,m.n,m.d⟩
theorem eW {c1:bS} {cx:cA} (hs:ao.bq ν P c1) (hx:bq ν P cx) (mw:eO cx) (cV:P.follows .mixedOrders=true) {nt id:Nat} {draw:Bool} {ops:Array Oper} {bA:List au} {keep:List Nat}
  (hc:gW P ν nt draw ops bA=true) {g:Gh} {a:Act} {s s':St} (e:aO c1 cx draw bA keep s=some s') (m:ca ν k nt g a s) {Q:Exit->Act->World->Prop}
  (hQ:∀g' a',ca ν k nt g' a' s'->aV ν g g'->Q .normal a' g'.w):(Code.region id ops draw).wp P Q a g.w:=by
 unfold aO at e;generalize FQ:({ s with nx:=s.nx+bA.length }:St)=t at e;have mt:ca ν k nt g a t:=by rw[<-FQ];exact m.next _
 generalize s.nx=n0 at e;clear FQ m;simp only[gW,Bool.and_eq_true]at hc;cases draw with
 |false=>
  simp only[Bool.false_eq_true,if_false]at e;cases h1:aX c1 cx bA n0 t with
  |none=>rw[h1]at e;cases e
  |some s1=>
   rw[h1]at e;simp only[Option.some.injEq]at e;subst e;exact wp_region_list (lF hs hx ops.toList bA n0 g a t s1 hc.1 h1 mt λg' a' m' hm=>hQ g' a' (m'.keep keep) hm)
 |true=>
  simp only[if_true]at e;cases h1:bC c1 cx bA n0 t with
  |none=>rw[h1]at e;cases e
  |some p=>
   obtain⟨s1,fs⟩:=p;rw[h1]at e;simp only[]at e;split at e
   case isFalse=>cases e
   rename_i oU;simp only[Option.some.injEq]at e;subst e;simp only[Bool.not_true,Bool.false_or,Bool.and_eq_true]at hc;refine wp_region_any cV ?_;obtain⟨r',hm⟩:=mt.r.world (w':={ g.w with drawn:=g.w.drawn+1 }) (I':=g.I) (λ_ h=>h) (λ_ h=>.inl h) (Nat.le_refl _) rfl rfl rfl λ_ _=>rfl
   obtain⟨aY,hlen⟩:=eB.mZ (s0:=n0) bA 0 t s1 fs (by simpa using h1);have hn:=(fD hc.1).1;simp only[Array.length_toList]at hn;have kM:=oR bA fs 0 hc.2.2 (by
    simp only[fS,Bool.or_eq_true,List.all_eq_true]at oU;exact oU.symm)
   have aT:(tag 0 bA fs).length=ops.size:=by
    rw[hn];generalize 0=i;clear aY kM oU h1 hc hn hQ
    induction bA generalizing fs i with
    |nil=>simp[tag]
    |cons o r ih=>
     cases fs with
     |nil=>simp at hlen
     |cons f fs=>simp only[tag,List.length_cons];rw[ih fs (by simpa using hlen)]
   refine sD hs hx mw hc.1 hc.2.1 ops.size _ _ { g with w:={ g.w with drawn:=g.w.drawn+1 } } a t aT ?_ aY ⟨mt.h,r',mt.f.mono hm,mt.n,mt.d⟩ λg' a' m' dv=>hQ g' a' (m'.keep keep) (hm.trans dv)
   refine⟨by simp,λx hx=>?_,λi hi=>?_,λi io _ hi=>?_,kM⟩
   ·obtain⟨q1,q2,q3⟩:=kj hx;simp only[Nat.sub_zero]at q2;have:x.1<ops.size:=by rw[hn];exact(List.getElem?_eq_some_iff.1 q2).1
    exact⟨this,by simp[this],q2⟩
   ·have bY:i<ops.size:=by
     have:=(Array.getElem?_eq_some_iff.1 hi).1;simpa using this
    obtain⟨x,hx,iQ⟩:=m7 (i:=0) (j:=i) (il:=bA) hlen (List.getElem?_eq_getElem (by omega));exact⟨x,hx,by omega⟩
   ·have bY:=(Array.getElem?_eq_some_iff.1 hi);obtain⟨q1,q2⟩:=bY;simp at q2
end
section
variable {ν:Nat->Nat} {P:Program} {k:Cx}
def ck (P:Program) (ν:Nat->Nat) (nt:Nat):Code->IC->Bool
 |.skip,.skip=>true
 |.label _,.skip=>true
 |.region _ ops draw,.gm d bA _=>draw==d&&gW P ν nt draw ops bA
 |.seq a b,.seq x y=>ck P ν nt a x&&ck P ν nt b y
 |.cond c a b,.cond d x y=>aF ν c d&&ck P ν nt a x&&ck P ν nt b y
 |.block id a,.block jd x=>id==jd&&ck P ν nt a x
 |.loop a,.loop _ x=>ck P ν nt a x
 |.exit id,.exit jd=>id==jd
 |.ret,.ret=>true
 |.scope a,.scope x=>ck P ν nt a x
 |_,.stop=>true
 |_,_=>false
theorem sG {c1:bS} {cx:cA} (hs:ao.bq ν P c1) (hx:bq ν P cx) (mw:eO cx) (cV:P.follows .mixedOrders=true) {nt n:Nat}:∀(ic:IC) (c:Code),ck P ν nt c ic=true->
  ∀(g:Gh) (a:Act) (s:St) (r:Ex) (s':St),aA c1 cx n ic s=some (r,s')->ca ν k nt g a s->∀Q:Exit->Act->World->Prop,(∀g' a',ca ν k nt g' a' s'->aV ν g g'->Q r.U a' g'.w)->c.wp P Q a g.w:=by
 intro ic
 induction ic with
 |skip=>
  intro c hc g a s r s' e m Q hQ;simp only[aA,Option.some.injEq,Prod.mk.injEq]at e;obtain⟨rfl,rfl⟩:=e;cases c<;>simp only[ck,Bool.false_eq_true]at hc
  ·exact wp_skip (hQ g a m (.refl ν g))
  ·exact wp_label (hQ g a m (.refl ν g))
 |gm draw ops keep=>
  intro c hc g a s r s' e m Q hQ;cases c<;>simp only[ck,Bool.false_eq_true]at hc;rename_i id Gy EL;simp only[Bool.and_eq_true,beq_iff_eq]at hc;obtain⟨rfl,hc⟩:=hc;simp only[aA,Option.map_eq_some_iff,Prod.mk.injEq]at e;obtain⟨s1,e1,rfl,rfl⟩:=e;exact eW hs hx mw cV hc e1 m λg' a' m' hm=>hQ g' a' m' hm
 |seq x y uD uE=>
  intro c hc g a s r s' e m Q hQ;cases c<;>simp only[ck,Bool.false_eq_true]at hc;simp only[Bool.and_eq_true]at hc;refine wp_seq ?_;simp only[aA]at e;cases h1:aA c1 cx n x s with
  |none=>rw[h1]at e;cases e
  |some p=>
   obtain⟨r1,s1⟩:=p;rw[h1]at e;refine uD _ hc.1 g a s r1 s1 h1 m _ λg' a' m' hm=>?_
   cases r1 with
   |norm=>exact uE _ hc.2 g' a' s1 r s' e m' Q λc6 oP oQ dv=>hQ c6 oP oQ (hm.trans dv)
   |exit i=>simp only[Option.some.injEq,Prod.mk.injEq]at e;obtain⟨rfl,rfl⟩:=e;exact hQ g' a' m' hm
   |ret=>simp only[Option.some.injEq,Prod.mk.injEq]at e;obtain⟨rfl,rfl⟩:=e;exact hQ g' a' m' hm
 |cond d x y uD uE=>
  intro c hc g a s r s' e m Q hQ;cases c<;>simp only[ck,Bool.false_eq_true]at hc;rename_i cd cX cY;simp only[Bool.and_eq_true]at hc;simp only[aA]at e;split at e
  ·rename_i t ht;have hR:=ak m.f hc.1.1;rw[ht]at hR;generalize hv:a.eval cd=v at hR;cases hR with
   |iv h=>
    cases h with
    |bool=>
     refine wp_cond hv ?_;cases t with
     |true=>exact uD _ hc.1.2 g a s r s' e m Q hQ
     |false=>exact uE _ hc.2 g a s r s' e m Q hQ
  ·cases e
 |block id x ih=>
  intro c hc g a s r s' e m Q hQ;cases c<;>simp only[ck,Bool.false_eq_true]at hc;simp only[Bool.and_eq_true,beq_iff_eq]at hc;obtain⟨rfl,hc⟩:=hc;refine wp_block ?_;simp only[aA]at e;cases h1:aA c1 cx n x s with
  |none=>rw[h1]at e;cases e
  |some p=>
   obtain⟨r1,s1⟩:=p;rw[h1]at e;refine ih _ hc g a s r1 s1 h1 m _ λg' a' m' hm=>?_
   cases r1 with
   |norm=>simp only[Option.some.injEq,Prod.mk.injEq]at e;obtain⟨rfl,rfl⟩:=e;exact hQ g' a' m' hm
   |ret=>simp only[Option.some.injEq,Prod.mk.injEq]at e;obtain⟨rfl,rfl⟩:=e;exact hQ g' a' m' hm
   |exit i=>
    simp only[Ex.U,Exit.inBlock];simp only[]at e;split at e
    ·rename_i hi;simp only[Option.some.injEq,Prod.mk.injEq]at e;obtain⟨rfl,rfl⟩:=e;rw[if_pos hi];exact hQ g' a' m' hm
    ·rename_i hi;simp only[Option.some.injEq,Prod.mk.injEq]at e;obtain⟨rfl,rfl⟩:=e;rw[if_neg hi];exact hQ g' a' m' hm
 |loop keep x ih=>
  intro c hc g a s r s' e m Q hQ;cases c<;>simp only[ck,Bool.false_eq_true]at hc;rename_i cX;simp only[aA]at e;refine oV (λj a w=>∃g1 s1,g1.w=w/\ca ν k nt g1 a s1/\aV ν g g1/\iter (aA c1 cx n x) keep j s1=some (r,s')) ?_ ?_ (n:=n) ⟨g,_,rfl,m.keep keep,.refl ν g,e⟩
  ·rintro a w ⟨g1,s1, -, -, -,h⟩;simp[iter]at h
  ·rintro j a w ⟨g1,s1,rfl,m1,fT,h⟩;simp only[iter]at h;cases h1:aA c1 cx n x s1 with
   |none=>rw[h1]at h;cases h
   |some p=>
    obtain⟨r2,s2⟩:=p;rw[h1]at h;refine ih _ hc g1 a s1 r2 s2 h1 m1 _ λg' a' m' hm=>?_
    cases r2 with
    |norm=>exact⟨g',_,rfl,m'.keep keep,fT.trans hm,h⟩
    |exit i=>simp only[Option.some.injEq,Prod.mk.injEq]at h;obtain⟨rfl,rfl⟩:=h;exact hQ g' a' m' (fT.trans hm)
    |ret=>simp only[Option.some.injEq,Prod.mk.injEq]at h;obtain⟨rfl,rfl⟩:=h;exact hQ g' a' m' (fT.trans hm)
 |scope x ih=>
  intro c hc g a s r s' e m Q hQ;cases c<;>simp only[ck,Bool.false_eq_true]at hc;refine wp_scope_straight (ih _ hc g a s r s' e m _ λg' a' m' hm=>?_);have:=hQ g' a' m' hm;cases r<;>exact this
 |stop=>
  intro c hc g a s r s' e m Q hQ;simp[aA]at e
 |exit id=>
  intro c hc g a s r s' e m Q hQ;cases c<;>simp only[ck,Bool.false_eq_true]at hc;simp only[aA,Option.some.injEq,Prod.mk.injEq]at e;obtain⟨rfl,rfl⟩:=e;rw[beq_iff_eq]at hc;subst hc;exact wp_exit (hQ g a m (.refl ν g))
 |ret=>
  intro c hc g a s r s' e m Q hQ;cases c<;>simp only[ck,Bool.false_eq_true]at hc;simp only[aA,Option.some.injEq,Prod.mk.injEq]at e;obtain⟨rfl,rfl⟩:=e;exact wp_ret (hQ g a m (.refl ν g))
end
section
variable {ν:Nat->Nat} {P:Program} {k:Cx}
def iw (P:Program):ResultVar->dZ->Bool
 |.tmp t,.t n=>t==n
 |.cell a t,.cell n agg sz=>a==n&&fO P t sz agg
 |_,_=>false
def cF (P:Program):List ResultVar->List dZ->Bool
 |[],[]=>true
 |r::rs,x::xs=>iw P r x&&cF P rs xs
 |_,_=>false
theorem m9 {g:Gh} (r:Rel ν k g) {a:Act} {fr:Fr} (hf:eU ν g a.tmps fr) {rv:ResultVar} {x:dZ} (hc:iw P rv x=true) {y:AV} {h':Hp} (e:(jG fr x).run g.h=some (y,h')) :
  h'=g.h/\∃v,(ja a.tmps rv).run P g.w = .ok v g.w/\RA ν g v y:=by
 cases x with
 |t n=>
  cases rv with
  |cell=>simp[iw]at hc
  |tmp t=>
   obtain⟨rfl,rfl⟩:=af e;exact⟨rfl,_,by simp[ja,Act.eval],ak (ν:=ν) (x:=.tmp t) (a:=a) hf (by simpa[aF,iw]using hc)⟩
 |cell n agg sz=>
  cases rv with
  |tmp=>simp[iw]at hc
  |cell t ty=>
   simp only[iw,Bool.and_eq_true]at hc;obtain⟨rfl,u,hu,yL⟩:=lf r hc.2 (ak (ν:=ν) (x:=.tmp t) hf (by simpa[aF]using hc.1)) e;exact⟨rfl,u,sH hu,yL⟩
theorem kN {g:Gh} (r:Rel ν k g) {a:Act} {fr:Fr} (hf:eU ν g a.tmps fr):∀(eC:List ResultVar) (xs:List dZ) (ys:List AV) (h':Hp),cF P eC xs=true->(M.aJ (jG fr) xs).run g.h=some (ys,h')->
  h'=g.h/\∃vs,vs.length=eC.length/\(∀(j:Nat) (rv:ResultVar) (v:Value),eC[j]?=some rv->vs[j]?=some v->(ja a.tmps rv).run P g.w = .ok v g.w)/\RL ν g vs ys
 |[],[],ys,h',_,e=>by
  obtain⟨rfl,rfl⟩:=b7 e;exact⟨rfl,[],rfl,λj rv v h=>by simp at h,.nil⟩
 |rv::eC,x::xs,ys,h',hc,e=>by
  simp only[cF,Bool.and_eq_true]at hc;obtain⟨y,h1,zs,e1,e2,rfl⟩:=bR e;obtain⟨rfl,v,q1,q6⟩:=m9 r hf hc.1 e1;obtain⟨rfl,vs,p1,p2,p7⟩:=kN r hf eC xs zs h' hc.2 e2;refine⟨rfl,v::vs,by simp[p1],λj yM v' hj hv=>?_,.cons q6 p7⟩;cases j with
  |zero=>simp at hj hv;subst hj hv;exact q1
  |succ j=>exact p2 j yM v' (by simpa using hj) (by simpa using hv)
 |[],_::_,_,_,hc,_=>by simp[cF]at hc
 |_::_,[],_,_,hc,_=>by simp[cF]at hc
theorem jz {g:Gh} (r:Rel ν k g) {a:Act} {fr:Fr} (hf:eU ν g a.tmps fr) {fn:Func} {xs:List dZ} (hc:cF P fn.results.toList xs=true) (h4:xs.length<=4) {y:AV} {h':Hp} (e:(dk fr xs).run g.h=some (y,h')) :
  h'=g.h/\∃v,(results fn a.tmps).run P g.w = .ok v g.w/\RA ν g v y:=by
 have hlen:∀{eC:List ResultVar} {xs:List dZ},cF P eC xs=true->eC.length=xs.length:=by
  intro eC
  induction eC with
  |nil=>intro xs h;cases xs with | nil=>rfl | cons=>simp[cF]at h
  |cons a r ih=>intro xs h;cases xs with | nil=>simp[cF]at h | cons x xs=>simp only[cF,Bool.and_eq_true]at h;simp[ih h.2]
 have hn:=hlen hc;have many:∀{ys:List AV} {h':Hp},(M.aJ (jG fr) xs).run g.h=some (ys,h')->xs.length≠1->h'=g.h/\∃v,(results fn a.tmps).run P g.w = .ok v g.w/\RA ν g v (.aR ys):=by
  intro ys h' e bF;obtain⟨rfl,vs,p1,p2,p7⟩:=kN r hf fn.results.toList xs ys h' hc e;refine⟨rfl,.tuple vs.toArray,?_,.aR (by simpa using p7.1) λj v c h1 h2=>p7.2 j v c (by simpa using h1) h2⟩;rw[ky (eC:=fn.results.toList) (by simp) (by omega) p1 p2];rcases vs with _ | ⟨v,_ | ⟨u,vs⟩⟩
  ·rfl
  ·exact absurd (hn.symm.trans p1.symm) (by simpa using bF)
  ·rfl
 rcases xs with _ | ⟨x,_ | ⟨x2,xs⟩⟩
 ·obtain⟨l,h1,e1,e2⟩:=ag e;obtain⟨rfl,rfl⟩:=af e2;exact many e1 (by simp)
 ·rcases hl:fn.results.toList with _ | ⟨rv,_ | ⟨Ja,eC⟩⟩
  ·rw[hl]at hn;simp at hn
  ·rw[hl]at hc;simp only[cF,Bool.and_true]at hc;obtain⟨rfl,v,q1,q6⟩:=m9 r hf hc e;refine⟨rfl,v,?_,q6⟩;refine ky (eC:=[rv]) (vs:=[v]) (by rw[<-hl]) (by simp) rfl λj yM v' hj hv=>?_
   cases j with
   |zero=>simp at hj hv;subst hj hv;exact q1
   |succ j=>simp at hj
  ·rw[hl]at hn;simp at hn
 ·obtain⟨l,h1,e1,e2⟩:=ag e;obtain⟨rfl,rfl⟩:=af e2;exact many e1 (by simp)
def pW (P:Program) (ν:Nat->Nat) (fn:Func) (c:Code) (ir:al):Bool:=
 ck P ν fn.ntmps c ir.body&&cF P fn.results.toList ir.res&&Nat.ble ir.res.length 4&&ir.iT.isNone
abbrev rN:=bS->cA->List AV->Hp->Nat->Option (AV×Hp×Nat)
def Dx (P:Program) (ν:Nat->Nat) (f:Nat) (p:rN):Prop:=
 ∀(c1:bS) (cx:cA),ao.bq ν P c1->bq ν P cx->∀args hp nx r bM dN,p c1 cx args hp nx=some (r,bM,dN)->
  (∃fn,P.funcs[ν f]?=some fn/\fn.body.isSome=true/\(fn.name=="runtime.NumGoroutine")=false)/\iX ν P f args hp r bM
def kz (P:Program) (ν:Nat->Nat) (f:Nat) (ir:al):Prop:=
 (∃fn c,P.funcs[ν f]?=some fn/\fn.body=some c/\(fn.name=="runtime.NumGoroutine")=false/\pW P ν fn c ir=true)\/∃p,ir.iT=some p/\Dx P ν f p/\ko p
def j5 (P:Program) (ν:Nat->Nat) (prog:Nat->Option al):Prop:=∀f ir,prog f=some ir->kz P ν f ir
theorem jU:∀(l:List AV) (i t:Nat),get (params l i) t=if i<=t then l[t - i]? else none
 |[],i,t=>by simp[params,dM]
 |x::r,i,t=>by
  simp only[params,bQ];by_cases h:i=t
  ·subst h;simp
  ·rw[if_neg h,jU r (i+1) t];by_cases h':i+1<=t
   ·rw[if_pos h',if_pos (by omega)];have:t - i=(t - (i+1))+1:=by omega
    rw[this];simp
   ·rw[if_neg h',if_neg (by omega)]
theorem sound (cV:P.follows .mixedOrders=true) {c1:bS} (hs:ao.bq ν P c1) {prog:Nat->Option al} (tie:j5 P ν prog):∀n,bq ν P (bg c1 prog n):=by
 have mw:=rL (c1:=c1) (prog:=prog) λf ir p hf hp=>by
  rcases tie f ir hf with⟨fn,c, -, -, -,jA⟩|⟨p',h1, -,h2⟩
  ·simp[pW,hp]at jA
  ·rw[hp]at h1;cases h1;exact h2
 intro n
 induction n with
 |zero=>intro f args hp nx r bM dN e;simp[bg]at e
 |succ n ih=>
  intro f args hp nx r bM dN e;simp only[bg]at e;cases hf:prog f with
  |none=>rw[hf]at e;cases e
  |some ir=>
   rw[hf]at e;simp only[]at e;rcases tie f ir hf with⟨fn,c,dp,hb,rq,jA⟩|⟨p,jw,bD, -⟩
   case inr=>rw[jw]at e;exact bD c1 _ hs ih args hp nx r bM dN e
   refine⟨⟨fn,dp,by simp[hb],rq⟩,?_⟩;simp only[pW,Bool.and_eq_true,Nat.ble_eq,Option.isNone_iff_eq_none]at jA;obtain⟨⟨⟨pU,nc⟩,pV⟩,lK⟩:=jA;rw[lK]at e;simp only[]at e;split at e
   ·rename_i hlen;intro k0 g0 aS hh r0 dx;refine calls_of_wp dp hb ?_;have m0:ca ν k0 fn.ntmps g0 { tmps:=aS++Array.replicate (fn.ntmps - aS.size) undef,defers:=[] } ⟨params args 0,hp,nx⟩:=by
     refine⟨hh,r0,λt x ht=>?_,by simp;omega,rfl⟩;simp only[jU,Nat.zero_le,if_true,Nat.sub_zero]at ht;have aT:t<aS.size:=by have:=dx.1;have:=ay ht;simp only[Array.length_toList]at *;omega
     refine⟨aS[t],by simp[Array.getElem?_append,aT],dx.2 t _ _ (by simp[aT]) ht⟩
    cases he:aA c1 (bg c1 prog n) n ir.body ⟨params args 0,hp,nx⟩with
    |none=>rw[he]at e;cases e
    |some p=>
     obtain⟨ex,s⟩:=p;rw[he]at e;have fin:∀(g':Gh) (a':Act),ca ν k0 fn.ntmps g' a' s->aV ν g0 g'->(match(dk s.fr ir.res).run s.hp with | some (v,h)=>some (v,h,s.nx) | none=>none)=some (r,bM,dN)->
       a'.defers=[]/\∃v,(results fn a'.tmps).run P g'.w = .ok v g'.w/\
       ∃u c6,Ending.returned v = .returned u/\c6.w=g'.w/\c6.h=bM/\Rel ν k0 c6/\aV ν g0 c6/\RA ν c6 u r:=by
      intro g' a' m' hm hr;cases Dy:(dk s.fr ir.res).run s.hp with
      |none=>rw[Dy]at hr;cases hr
      |some q=>
       obtain⟨y,h1⟩:=q;rw[Dy]at hr;cases hr;obtain⟨rfl,v,q1,q6⟩:=jz m'.r m'.f nc pV (by rw[m'.h];exact Dy);exact⟨m'.d,v,q1,v,g',rfl,rfl,rfl,m'.r,hm,q6⟩
     refine sG hs ih (mw n) cV ir.body c pU g0 _ _ ex s he m0 _ λg' a' m' hm=>?_
     cases ex with
     |norm=>exact fin g' a' m' hm e
     |ret=>exact fin g' a' m' hm e
     |exit i=>cases e
   ·cases e
end
def da (d:Nat) (x:aH):au:=⟨some d,.nU x,none,[]⟩
def nH (e:Nat):List au:=[⟨some 5,.AY e,none,[]⟩,da 6 (.t 0),⟨some 7,.app e false (.t 5) (.t 6),none,[]⟩,da 2 (.t 7)]
def rz (P:Program) (nt e:Nat) (b:Oper):Bool:=
 b.dst==some 4&&Nat.blt 4 nt&&(match b.guard with | none=>true | _=>false)&&(match b.op with | .binOp .eql t (.tmp 3) (.const (.slice none 0 0)) _=>sliceB P t e | _=>false)
def lJ (P:Program) (ν:Nat->Nat) (nt:Nat) (c:Code) (e:Nat):Bool:=
 match c with
 |.seq (.region _ o1 false) (.seq (.seq (.region _ o2 false) (.cond (.tmp 4) (.seq (.region _ o3 false) .ret) .skip)) (.seq (.region _ o4 false) .ret))=>
  gW P ν nt false o1 [da 2 (.c (.iv (.aq e)))]&&(match o2.toList with | [a,b]=>eo P ν nt o2 a (da 3 (.t 0))&&rz P nt e b | _=>false) &&
  gW P ν nt false o3 [da 2 (.c (.iv (.aq e)))]&&gW P ν nt false o4 (nH e)
 |_=>false
section
variable {ν:Nat->Nat} {P:Program} {k:Cx}
def gh:bS:=λ_ _ _=>none
def rP:cA:=λ_ _ _ _=>none
theorem bP:ao.bq ν P gh:=λf args hp r bM e=>by simp[gh]at e
theorem db:bq ν P rP:=λf args hp nx r bM dN e=>by simp[rP]at e
theorem gI:eO rP:=λf args hp nx r bM dN e=>by simp[rP]at e
theorem rQ {e:Nat} {x:AV} {hp h':Hp} {ys:List (List AV)} (he:(elems e x).run hp=some (ys,h')):h'=hp:=by
 unfold elems at he;split at he
 ·obtain⟨o,hg,e2⟩:=M.aM he;split at e2
  all_goals first
   |exact(ae e2).elim
   |(obtain⟨_,e4⟩:=M.aj e2
     exact(af e4).2)
 ·obtain⟨_,e4⟩:=M.aj he;exact(af e4).2
 ·exact(af he).2
 ·exact(ae he).elim
theorem vH {e:Nat} {x:AV} {hp h':Hp} {ys:List (List AV)} (he:(elems e x).run hp=some (ys,h')):lR e x=elems e x:=by
 unfold lR;split
 ·simp[elems,M.run]at he
 ·rfl
theorem uF (e:Nat) (x:AV) (hp:Hp) (nx:Nat):aO gh rP false [da 2 (.c (.iv (.aq e)))] [0] ⟨[(0,x)],hp,nx⟩=some ⟨[(0,x)],hp,nx+1⟩:=rfl
theorem uG (e:Nat) (fr:Fr) (hp:Hp) (nx:Nat):aO gh rP false [da 2 (.c (.iv (.aq e)))] [2] ⟨fr,hp,nx⟩=some ⟨[(2,.iv (.aq e))],hp,nx+1⟩:=by
 have:get (aB.set fr 2 (AV.iv (.aq e))) 2=some (.iv (.aq e)):=an _ _ _;simp[aO,da,aX,step,bG,dI,bk,M.run,bh,ev,bb,this]
theorem uH {e:Nat} {x:AV} {hp:Hp} {nx:Nat} {ys:List (List AV)} (he:(elems e x).run hp=some (ys,hp)) (hr:ys≠[]->roomy ys.length=true/\get hp (4*(nx+2))=none) :
  aO gh rP false (nH e) [2] ⟨[(0,x)],hp,nx⟩ =
   some ⟨[(2,if ys.isEmpty then .iv (.aq e) else .own (4*(nx+2)) 0 ys.length 0)],if ys.isEmpty then hp else aB.set hp (4*(nx+2)) (.buf 0 e ys),nx+4⟩:=by
 have hs:=vH he;cases ys with
 |nil=>simp[aO,nH,da,aX,step,bG,dI,bk,aW,M.run,bh,ev,bb,aQ,bQ,app,hs,he]
 |cons y ys=>
  obtain⟨h1,h2⟩:=hr (by simp);have CO:aB.get hp (4*(nx+1+1))=none:=h2;have mj:roomy (ys.length+1)=true:=by simpa using h1
  simp[aO,nH,da,aX,step,bG,dI,bk,aW,M.run,bh,ev,bb,aQ,bQ,app,hs,he,M.ok,M.fresh,M.write,mj,CO]
theorem ca.nx {nt:Nat} {g:Gh} {a:Act} {s:St} (m:ca ν k nt g a s) {fr:Fr} (hf:∀t x,get fr t=some x->get s.fr t=some x) {hp:Hp} (hh:hp=s.hp) (n:Nat):ca ν k nt g a ⟨fr,hp,n⟩:=by
 subst hh;exact⟨m.h,m.r,λt x ht=>m.f t x (hf t x ht),m.n,m.d⟩
theorem qy {f:Nat} {fn:Func} {c:Code} (dp:P.funcs[ν f]?=some fn) (hb:fn.body=some c) (cV:P.follows .mixedOrders=true) {e:Nat} (hc:lJ P ν fn.ntmps c e=true)
  (uI:cF P fn.results.toList [.t 2]=true) {c1:bS} {cx:cA} {args:List AV} {hp:Hp} {nx:Nat} {r:AV} {bM:Hp} {dN:Nat} (he:Prim.clone e c1 cx args hp nx=some (r,bM,dN)):iX ν P f args hp r bM:=by
 intro k0 g0 aS hh r0 dx;unfold Prim.clone at he;split at he
 case h_2=>cases he
 rename_i x;cases gQ:(elems e x).run hp with
 |none=>rw[gQ]at he;cases he
 |some p=>
 obtain⟨ys,h1⟩:=p;obtain rfl:=rQ gQ;rw[gQ]at he;simp only[]at he;have gH:(ys≠[]->roomy ys.length=true/\get h1 (4*(nx+2))=none)/\r=(if ys.isEmpty then .iv (.aq e) else .own (4*(nx+2)) 0 ys.length 0)/\bM=(if ys.isEmpty then h1 else aB.set h1 (4*(nx+2)) (.buf 0 e ys)):=by
  cases ys with
  |nil=>
   simp only[Option.some.injEq,Prod.mk.injEq]at he;obtain⟨rfl,rfl, -⟩:=he;exact⟨λh=>absurd rfl h,rfl,rfl⟩
  |cons y ys=>
   simp only[]at he;split at he
   ·rename_i hk;simp only[Bool.and_eq_true,Option.isNone_iff_eq_none]at hk;simp only[Option.some.injEq,Prod.mk.injEq]at he;obtain⟨rfl,rfl, -⟩:=he;exact⟨λ_=>hk,rfl,rfl⟩
   ·cases he
 obtain⟨dF,rfl,rfl⟩:=gH;obtain⟨cv,gZ⟩:∃cv,aS=#[cv]:=by
  have:=dx.1;simp only[List.length_cons,List.length_nil,Nat.zero_add,Array.length_toList]at this;obtain⟨l⟩:=aS
  match l,this with
  |[v],_=>exact⟨v,rfl⟩
 subst gZ;have lx:RA ν g0 cv x:=dx.2 0 _ _ rfl rfl;refine calls_of_wp dp hb ?_;have m0:ca ν k0 fn.ntmps g0 { tmps:=#[cv]++Array.replicate (fn.ntmps - 1) undef,defers:=[] } ⟨[(0,x)],h1,nx⟩:=by
  refine⟨hh,r0,λt x' ht=>?_,by simp;omega,rfl⟩;simp only[bQ,dM]at ht;split at ht
  ·rename_i h0;subst h0;simp only[Option.some.injEq]at ht;subst ht;exact⟨cv,by simp[Array.getElem?_append],lx⟩
  ·cases ht
 unfold lJ at hc;split at hc
 case h_2=>cases hc
 rename_i i1 o1 i2 o2 i3 o3 i4 o4;simp only[Bool.and_eq_true]at hc;obtain⟨⟨⟨pU,nc⟩,pV⟩,lK⟩:=hc;split at nc
 case h_2=>cases nc
 rename_i oa ob hl;simp only[Bool.and_eq_true]at nc;obtain⟨CK,dB⟩:=nc;simp only[rz,Bool.and_eq_true,beq_iff_eq]at dB;obtain⟨⟨⟨td,CL⟩,yN⟩,uJ⟩:=dB;have zR:ob.guard=none:=by
  split at yN
  ·assumption
  ·cases yN
 split at uJ
 case h_2=>cases uJ
 rename_i t yt zS;obtain⟨el,ti,gn, -, -⟩:=dz uJ;refine wp_seq (eW bP db gI cV pU (uF e x h1 nx) m0 λg1 a1 m1 fT=>?_);refine wp_seq (wp_seq (wp_region_list ?_));rw[hl];refine wpList_step λK hK=>gg (slot:=0) (s1:=⟨[(0,x),(3,x)],h1,nx+1⟩) bP db CK m1 rfl λg2 a2 m2 fU=>hK _ _ ?_
 refine wpList_step λK2 lL=>?_
 simp only[Region.wanted,zR,if_true];obtain⟨v3,yO,CM⟩:=m2.f 3 x rfl;have nd:a2.eval (.tmp 3)=v3:=by simp[Act.eval,Array.getD,(Array.getElem?_eq_some_iff.1 yO).1,(Array.getElem?_eq_some_iff.1 yO).2]
 obtain⟨aa,cap,eS,mC⟩:∃aa cap,v3 = .slice aa ys.length cap/\(aa=none->ys=[]):=by
  obtain⟨-,news,⟨aa,cap,h1,h2⟩, -⟩:=kc m2.r (by rw[m2.h];exact gQ) CM;refine⟨aa,cap,h1,λha=>?_⟩;rcases h2 with h2 | ⟨b,off,h2, -⟩
  ·exact List.eq_nil_of_length_eq_zero h2
  ·rw[ha]at h2;cases h2
 subst eS;have aY:(execOp a2.eval ob).run P g2.w = .ok (.value (.bool aa.isNone)) g2.w:=by
  have hg:eqGuard .eql t (.tmp 3) (.const (.slice none 0 0)) (.slice aa ys.length cap) (.slice none 0 0)=pure ():=rfl;have:=Lib.run_eql_slice_nil g2.w t el aa ys.length cap 0 0 gn;simp only[execOp,zS,nd,show a2.eval (.const (.slice none 0 0)) = .slice none 0 0 from rfl,hg];simp only[Sem.run_bind,Sem.run_pure,Result.andThen_ok,this]
 unfold Oper.wp;rw[aY,Oper.upon_value];refine lL _ _ (wpList_nil ?_);have m3:=m2.put (dN:=nx+1) (d:=some 4) (v:=.bool aa.isNone) (y:=.iv (.bool aa.isNone)) (λt ht=>by cases ht;simpa using CL) m2.h m2.r (.refl ν g2) (.iv (.bool _));rw[<-td]at m3;simp only[Exit.then];have gH:(a2.put ob.dst (.bool aa.isNone)).eval (.tmp 4) = .bool aa.isNone:=by
  have:=ak (ν:=ν) (x:=.tmp 4) (y:=.t 4) m3.f (by rfl);have zT:ev (bh [(0,x),(3,x)] ob.dst (.iv (.bool aa.isNone))) (.t 4) = .iv (.bool aa.isNone):=by rw[td];rfl
  rw[zT]at this;generalize(a2.put ob.dst (.bool aa.isNone)).eval (.tmp 4)=u at this;cases this with
  |iv h=>cases h;rfl
 refine wp_cond gH ?_;have fin:∀(g':Gh) (a':Act) (nx:Nat) (y:AV) (h2:Hp),ca ν k0 fn.ntmps g' a' ⟨[(2,y)],h2,nx⟩->aV ν g0 g'->
   a'.defers=[]/\∃v,(results fn a'.tmps).run P g'.w = .ok v g'.w/\∃u c6,Ending.returned v = .returned u/\c6.w=g'.w/\c6.h=h2/\Rel ν k0 c6/\aV ν g0 c6/\RA ν c6 u y:=by
  intro g' a' nx y h2 m' hm;obtain⟨q0,v,q1,q6⟩:=jz (y:=y) (h':=g'.h) m'.r m'.f uI (by simp) rfl;exact⟨m'.d,v,q1,v,g',rfl,rfl,m'.h,m'.r,hm,q6⟩
 have A4:∀t x',get ([(0,x)]:Fr) t=some x'->get (bh [(0,x),(3,x)] ob.dst (.iv (.bool aa.isNone))) t=some x':=by
  intro t x' ht;simp only[bQ,dM]at ht;split at ht
  ·rename_i h0;subst h0;rw[td];exact ht
  ·cases ht
 cases aa with
 |none=>
  obtain rfl:=mC rfl;simp only[Option.isNone_none,if_true]at m3 ⊢;refine wp_seq (eW bP db gI cV pV (uG e [(0,x)] h1 nx) (m3.nx A4 rfl nx) λg4 a4 m4 rA=>wp_ret ?_);exact fin g4 a4 _ _ _ m4 ((fT.trans fU).trans rA)
 |some ad=>
  simp only[Option.isNone_some,Bool.false_eq_true,if_false]at m3 ⊢;refine wp_skip ?_;simp only[Exit.then];refine wp_seq (eW bP db gI cV lK (uH (nx:=nx) gQ dF) (m3.nx A4 rfl nx) λg4 a4 m4 rA=>wp_ret ?_);exact fin g4 a4 _ _ _ m4 ((fT.trans fU).trans rA)
theorem xp (e:Nat):ko (Prim.clone e):=by
 intro c1 cx hx args h nx r h' dN he;unfold Prim.clone at he ⊢;split at he
 case h_2=>cases he
 rename_i x;cases gQ:(elems e x).run h with
 |none=>rw[gQ]at he;cases he
 |some p=>
  obtain⟨ys,h1⟩:=p;obtain rfl:=rQ gQ;rw[gQ]at he;simp only[]at he ⊢;cases ys with
  |nil=>
   simp only[Option.some.injEq,Prod.mk.injEq]at he;obtain⟨rfl,rfl,rfl⟩:=he;refine⟨λ_ h=>h,λqs hq=>?_⟩;rw[(M.more (NR.rJ _ _) gQ hq).1]
  |cons y ys=>
   simp only[]at he;split at he
   case isFalse=>cases he
   rename_i hk;simp only[Option.some.injEq,Prod.mk.injEq]at he;obtain⟨rfl,rfl,rfl⟩:=he;simp only[Bool.and_eq_true,Option.isNone_iff_eq_none]at hk;refine⟨λn hn=>hn.set,λqs hq=>?_⟩;have JE:gq qs h1:=hq.back λn hn=>hn.set
   have bF:∀p ∈ qs,p.1≠4*(nx+2):=hq.not On.same;rw[(M.more (NR.rJ _ _) gQ JE).1];simp only[];rw[if_pos (by simp only[Bool.and_eq_true,Option.isNone_iff_eq_none];exact⟨hk.1,by rw[fj bF];exact hk.2⟩),v7 _ bF]
end
open Go.ChangeMaps (setBlock)
def Has (a:Act) (n:Nat) (v:Value):Prop:=a.tmps[n]?=some v
theorem Has.eval {a:Act} {n:Nat} {v:Value} (h:Has a n v):a.eval (.tmp n)=v:=by
 have:=Array.getElem?_eq_some_iff.1 h;simp[Act.eval,Array.getD,this.1,this.2]
theorem Has.ne {a:Act} {n d:Nat} {u v:Value} (h:Has a n v) (bF:d≠n):Has (a.put (some d) u) n v:=by
 unfold Has at *;simp only[Act.put];rw[Array.getElem?_setIfInBounds_ne bF];exact h
theorem Has.new {a:Act} {d:Nat} {u:Value} (h:d<a.tmps.size):Has (a.put (some d) u) d u:=by
 unfold Has;simp[Act.put,h]
theorem cg (a:Act) (d:Option Nat) (u:Value):(a.put d u).tmps.size=a.tmps.size:=by cases d<;>simp[Act.put]
theorem put_defers (a:Act) (d:Option Nat) (u:Value):(a.put d u).defers=a.defers:=by cases d<;>rfl
section
variable {ν:Nat->Nat} {P:Program} {k:Cx} {g:Gh}
theorem eQ {ops:Array Oper} {o:Oper} {rest:List Oper} {a:Act} {w w':World} {v:Value} {Q:Exit->Act->World->Prop} (hg:o.guard=none) (h:(execOp a.eval o).run P w = .ok (.value v) w')
  (hK:wpList P ops Q rest (a.put o.dst v) w'):wpList P ops Q (o::rest) a w:=by
 refine wpList_plain hg λK JF=>?_
 unfold Oper.wp;rw[h,Oper.upon_value];exact JF _ _ hK
theorem za {v:Value} {x:AV} {h':Hp} {kk:IntKind} {n:Int} (hv:RA ν g v x) (e:(len false x).run g.h=some (.iv (.int kk n),h')):∃a m c,v = .slice a m c/\n=(m:Int):=by
 cases hv with
 |undef=>exact(ae e).elim
 |cG=>exact(ae e).elim
 |agg=>exact(ae e).elim
 |aR=>exact(ae e).elim
 |ref=>exact(ae e).elim
 |bp=>exact(ae e).elim
 |iv hr=>
  cases hr with
  |aq a aD=>obtain⟨h1,rfl⟩:=af e;cases h1;exact⟨_,_,_,rfl,rfl⟩
  |dU a cap aD=>obtain⟨h1,rfl⟩:=af e;cases h1;exact⟨_,_,_,rfl,rfl⟩
  |sl b off n' cap aD es f hI hn eH lq hc hr=>obtain⟨h1,rfl⟩:=af e;cases h1;exact⟨_,_,_,rfl,by rw[hn]⟩
  |_=>exact(ae e).elim
 |@own _ id o m ai j4 ho=>
  obtain⟨ob,hg,e2⟩:=M.aM e;unfold aE at ho;rw[hg]at ho;have fin:∀{aD L:Nat},cD g.w (g.φ id) aD L o m v->∃a m' c,v = .slice a m' c/\(m:Int)=(m':Int):=by
   intro aD L hs;cases ah:g.φ id with
   |none=>rw[ah]at hs;obtain⟨⟨a,rfl⟩,rfl,_⟩:=hs;exact⟨_,_,_,rfl,rfl⟩
   |some b=>rw[ah]at hs;obtain⟨x,cap,rfl,_⟩:=hs;exact⟨_,_,_,rfl,rfl⟩
  cases ob with
  |cells cs=>
   obtain⟨cc,e4⟩:=M.aj e2;obtain⟨h5,rfl⟩:=af e4;cases h5;exact fin ho.2
  |c7 cs=>
   obtain⟨cc,e4⟩:=M.aj e2;obtain⟨h5,rfl⟩:=af e4;cases h5;exact fin ho.2
  |buf v' aD es=>
   obtain⟨cc,e4⟩:=M.aj e2;obtain⟨h5,rfl⟩:=af e4;cases h5;exact fin (ho.2 (by simpa using cc))
  |aZ v' aD es=>
   obtain⟨cc,e4⟩:=M.aj e2;obtain⟨h5,rfl⟩:=af e4;cases h5;exact fin (ho.2 (by simpa using cc))
  |map _=>exact(ae e2).elim
def sQ:Value->Nat
 |.slice _ n _=>n
 |_=>0
def cO:List MapEntry->Array Nat->Nat
 |[],_=>0
 |x::l,seen=>(if seen.contains x.born then sQ x.val else 0)+cO l seen
theorem rR:∀es:List MapEntry,cO es #[]=0
 |[]=>rfl
 |x::l=>by simp[cO,rR l]
theorem qc (seen:Array Nat) (b:Nat):∀es:List MapEntry,b ∉ es.map (·.born)->cO es (seen.push b)=cO es seen
 |[],_=>rfl
 |x::l,h=>by
  simp only[List.map_cons,List.mem_cons,not_or]at h;have hx:(x.born==b)=false:=by simpa using λe=>h.1 e.symm
  simp only[cO,contains_push,hx,Bool.or_false,qc seen b l h.2]
theorem rS (seen:Array Nat) (e:MapEntry) (hs:seen.contains e.born=false):∀es:List MapEntry,(es.map (·.born)).Nodup->e ∈ es->cO es (seen.push e.born)=cO es seen+sQ e.val
 |x::l,hn,he=>by
  have cZ:x.born ∉ l.map (·.born)/\(l.map (·.born)).Nodup:=List.nodup_cons.1 hn;rcases List.mem_cons.1 he with rfl | h
  ·simp only[cO,contains_push,hs,beq_self_eq_true,Bool.or_true,if_true,Bool.false_eq_true,if_false,qc seen e.born l cZ.1];omega
  ·have hx:(x.born==e.born)=false:=by
    cases hc:x.born==e.born with
    |false=>rfl
    |true=>exact absurd (by rw[beq_iff_eq.1 hc];exact List.mem_map.2 ⟨e,h,rfl⟩) cZ.1
   simp only[cO,contains_push,hx,Bool.or_false,rS seen e hs l cZ.2 h];omega
theorem rT (seen:Array Nat):∀es:List MapEntry,(∀x ∈ es,seen.contains x.born=true)->cO es seen=(es.map λe=>sQ e.val).sum
 |[],_=>rfl
 |x::l,h=>by
  simp only[cO,h x (List.mem_cons_self ..),if_true,List.map_cons,List.sum_cons,rT seen l λy hy=>h y (List.mem_cons_of_mem _ hy)]
theorem vb (seen:Array Nat):∀es:List MapEntry,cO es seen<=(es.map λe=>sQ e.val).sum
 |[]=>Nat.le_refl _
 |x::l=>by
  have:=vb seen l;simp only[cO,List.map_cons,List.sum_cons];split<;>omega
theorem rU (r:Rel ν k g):∀(aL:List (AV×AV)) (es:List MapEntry) (n:Nat),Prim.iM g.h aL=some n->es.length=aL.length->(∀(j:Nat) (e:MapEntry) (p:AV×AV),es[j]?=some e->aL[j]?=some p->RA ν g e.val p.2)->
  (es.map λe=>sQ e.val).sum=n/\∀e ∈ es,∃a m c,e.val = .slice a m c
 |[],[],n,h,_,_=>by
  simp only[Prim.iM,Option.some.injEq]at h;subst h;exact⟨rfl,λe he=>by simp at he⟩
 |p::aL,e::es,n,h,hl,hr=>by
  unfold Prim.iM at h;split at h
  ·rename_i kk m h' k' h1 h2;cases h;obtain⟨a,m',c,hv,hm⟩:=za (hr 0 e p rfl rfl) h1;obtain⟨q1,q2⟩:=rU r aL es k' h2 (by simpa using hl) λj e p h3 h4=>hr (j+1) e p (by simpa using h3) (by simpa using h4)
   refine⟨?_,λe' cr=>?_⟩
   ·rw[List.map_cons,List.sum_cons,q1,hv,hm];simp[sQ]
   ·rcases List.mem_cons.1 cr with rfl | cr
    ·exact⟨a,m',c,hv⟩
    ·exact q2 e' cr
  ·cases h
 |[],_::_,_,_,hl,_=>by simp at hl
 |_::_,[],_,_,hl,_=>by simp at hl
def isDst (o:Oper) (d:Nat):Bool:=o.dst==some d&&(match o.guard with | none=>true | _=>false)
theorem gJ {o:Oper} {d:Nat} (h:isDst o d=true):o.dst=some d/\o.guard=none:=by
 simp only[isDst,Bool.and_eq_true,beq_iff_eq]at h;refine⟨h.1,?_⟩;have:=h.2;split at this
 ·assumption
 ·cases this
def wg (P:Program) (o:Oper):Bool:=isDst o 11&&(match o.op with | .range t (.tmp 10)=>(match P.underlying t with | some (.map _ _)=>true | _=>false) | _=>false)
def vd (o:Oper):Bool:=isDst o 12&&(match o.op with | .next (.tmp 11) false=>true | _=>false)
def tA (d s i:Nat) (o:Oper):Bool:=isDst o d&&(match o.op with | .extract (.tmp t) j=>t==s&&j==i | _=>false)
def sR (o:Oper):Bool:=isDst o 14&&(match o.op with | .entry (.tmp 11)=>true | _=>false)
def pJ (d s:Nat) (o:Oper):Bool:=isDst o d&&(match o.op with | .move (.tmp t) | .assign (.tmp t)=>t==s | _=>false)
def isLen (P:Program) (o:Oper):Bool:=isDst o 18&&(match o.op with | .call { callee:=.builtin .len,args,argTypes }=>(match args.toList,argTypes.toList with | [.tmp 17],[t]=>(match P.underlying t with | some (.slice _)=>true | _=>false) | _,_=>false) | _=>false)
def isAdd (P:Program) (o:Oper):Bool:=isDst o 19&&(match o.op with | .binOp .add t (.tmp 16) (.tmp 18) _=>(match P.underlying t with | some (.int .i64)=>true | _=>false) | _=>false)
def iz:au:=da 2 (.c (.iv (.int .i64 0)))
def ve (P:Program) (ν:Nat->Nat) (nt:Nat) (c:Code):Bool:=
 Nat.ble 21 nt&&match c with
 |.seq (.region _ o0 false) (.seq (.seq (.region _ o1 false) (.cond (.tmp 6) (.seq (.region _ o2 false) .ret) .skip))
   (.seq (.seq (.region _ o3 false) (.block 0 (.loop (.seq (.region _ o4 false) (.seq (.cond (.tmp 13) .skip (.exit 0)) (.block 1 (.seq (.region _ o5 false) (.region _ o6 false))))))))
    (.seq (.region _ o7 false) .ret)))=>
  gW P ν nt false o0 [iz]&&gW P ν nt false o1 [da 5 (.t 0),⟨some 6,.bin .eql 2 (.t 5) (.c (.iv .bc)),none,[]⟩]&&gW P ν nt false o2 [iz] &&
  (match o3.toList with | [a,b,c,d,e]=>eo P ν nt o3 a (da 7 (.t 0))&&eo P ν nt o3 b ⟨some 8,.mz (.t 7),none,[]⟩&&eo P ν nt o3 c ⟨some 9,.eD 1 (.t 8),none,[]⟩&&eo P ν nt o3 d ⟨some 10,.load false 1 (.t 9),none,[]⟩&&wg P e | _=>false) &&
  (match o4.toList with | [a,b]=>vd a&&tA 13 12 0 b | _=>false)&&(match o5.toList with | [a,b,c]=>sR a&&tA 15 14 1 b&&pJ 4 15 c | _=>false) &&
  (match o6.toList with | [a,b,c,d,e]=>pJ 16 2 a&&pJ 17 4 b&&isLen P c&&isAdd P d&&pJ 2 19 e | _=>false)&&gW P ν nt false o7 [da 20 (.t 2),da 2 (.t 20)]
 |_=>false
theorem pK {o:Oper} {d s:Nat} {a:Act} {v:Value} (h:pJ d s o=true) (hv:Has a s v) (w:World):o.dst=some d/\o.guard=none/\(execOp a.eval o).run P w = .ok (.value v) w:=by
 simp only[pJ,Bool.and_eq_true]at h;obtain⟨h1,h2⟩:=h;obtain⟨q1,q2⟩:=gJ h1;refine⟨q1,q2,?_⟩;split at h2
 ·rename_i t ho;obtain rfl:=beq_iff_eq.1 h2;simp[execOp,ho,hv.eval]
 ·rename_i t ho;obtain rfl:=beq_iff_eq.1 h2;simp[execOp,ho,hv.eval]
 ·cases h2
theorem sS {o:Oper} {d s i:Nat} {a:Act} {us:Array Value} {v:Value} (h:tA d s i o=true) (hv:Has a s (.tuple us)) (hi:us[i]?=some v) (w:World):o.dst=some d/\o.guard=none/\(execOp a.eval o).run P w = .ok (.value v) w:=by
 simp only[tA,Bool.and_eq_true]at h;obtain⟨h1,h2⟩:=h;obtain⟨q1,q2⟩:=gJ h1;refine⟨q1,q2,?_⟩;split at h2
 ·rename_i t j ho;simp only[Bool.and_eq_true,beq_iff_eq]at h2;obtain⟨rfl,rfl⟩:=h2;simp[execOp,ho,hv.eval,Instr.extract,hi]
 ·cases h2
theorem vf {o:Oper} {a:Act} {r:Nat} {w w':World} {v:Value} (h:vd o=true) (hv:Has a 11 (.pointer (some ⟨r,0,none⟩))) (hr:(Instr.next (.pointer (some ⟨r,0,none⟩)) false o.type).run P w = .ok v w'):o.dst=some 12/\o.guard=none/\(execOp a.eval o).run P w = .ok (.value v) w':=by
 simp only[vd,Bool.and_eq_true]at h;obtain⟨h1,h2⟩:=h;obtain⟨q1,q2⟩:=gJ h1;refine⟨q1,q2,?_⟩;split at h2
 ·rename_i ho;simp[execOp,ho,hv.eval,hr]
 ·cases h2
theorem zb {o:Oper} {a:Act} {r:Nat} {w:World} {v:Value} (h:sR o=true) (hv:Has a 11 (.pointer (some ⟨r,0,none⟩))) (hr:(Instr.entry (.pointer (some ⟨r,0,none⟩))).run P w = .ok v w):o.dst=some 14/\o.guard=none/\(execOp a.eval o).run P w = .ok (.value v) w:=by
 simp only[sR,Bool.and_eq_true]at h;obtain⟨h1,h2⟩:=h;obtain⟨q1,q2⟩:=gJ h1;refine⟨q1,q2,?_⟩;split at h2
 ·rename_i ho;simp[execOp,ho,hv.eval,hr]
 ·cases h2
theorem BB {o:Oper} {a:Act} {w:World} {b:Option Addr} {n c:Nat} (h:isLen P o=true) (hv:Has a 17 (.slice b n c)):o.dst=some 18/\o.guard=none/\(execOp a.eval o).run P w = .ok (.value (.int .i64 n)) w:=by
 simp only[isLen,Bool.and_eq_true]at h;obtain⟨h1,h2⟩:=h;obtain⟨q1,q2⟩:=gJ h1;refine⟨q1,q2,?_⟩;split at h2
 case h_2=>cases h2
 rename_i args cz ho;split at h2
 case h_2=>cases h2
 rename_i t hx ht;obtain rfl:args=#[.tmp 17]:=Array.ext' hx;obtain rfl:cz=#[t]:=Array.ext' ht;split at h2
 ·rename_i el hu;simp[execOp,ho,resolve,invoke,builtin,hv.eval,Builtin.len_,run_underlying hu,goInt]
 ·cases h2
theorem BC {o:Oper} {a:Act} {w:World} {x y:Int} (h:isAdd P o=true) (hx:Has a 16 (.int .i64 x)) (hy:Has a 18 (.int .i64 y)):o.dst=some 19/\o.guard=none/\(execOp a.eval o).run P w = .ok (.value (.int .i64 (IntKind.i64.wrap (x+y)))) w:=by
 simp only[isAdd,Bool.and_eq_true]at h;obtain⟨h1,h2⟩:=h;obtain⟨q1,q2⟩:=gJ h1;refine⟨q1,q2,?_⟩;split at h2
 case h_2=>cases h2
 rename_i t _ ho;split at h2
 ·rename_i hu;have hg:eqGuard .add t (.tmp 16) (.tmp 18) (.int .i64 x) (.int .i64 y)=pure ():=rfl;simp[execOp,ho,hx.eval,hy.eval,hg,binOp,Op.intArith]
 ·cases h2
theorem Ah {f:Nat} {fn:Func} {c:Code} (dp:P.funcs[ν f]?=some fn) (hb:fn.body=some c) (cV:P.follows .mixedOrders=true) (hc:ve P ν fn.ntmps c=true)
  (uI:cF P fn.results.toList [.t 2]=true) {c1:bS} {cx:cA} {args:List AV} {hp:Hp} {nx:Nat} {r:AV} {bM:Hp} {dN:Nat} (he:Prim.total c1 cx args hp nx=some (r,bM,dN)):iX ν P f args hp r bM:=by
 intro k0 g0 aS hh r0 dx;have fin:∀(g':Gh) (a':Act) (nx:Nat) (y:AV) (h2:Hp),ca ν k0 fn.ntmps g' a' ⟨[(2,y)],h2,nx⟩->aV ν g0 g'->
   a'.defers=[]/\∃v,(results fn a'.tmps).run P g'.w = .ok v g'.w/\∃u c6,Ending.returned v = .returned u/\c6.w=g'.w/\c6.h=h2/\Rel ν k0 c6/\aV ν g0 c6/\RA ν c6 u y:=by
  intro g' a' nx y h2 m' hm;obtain⟨q0,v,q1,q6⟩:=jz (y:=y) (h':=g'.h) m'.r m'.f uI (by simp) rfl;exact⟨m'.d,v,q1,v,g',rfl,rfl,m'.h,m'.r,hm,q6⟩
 unfold ve at hc;rw[Bool.and_eq_true]at hc;obtain⟨JG,hc⟩:=hc;rw[Nat.ble_eq]at JG;split at hc
 case h_2=>cases hc
 rename_i i0 o0 i1 o1 i2 o2 i3 o3 i4 o4 i5 o5 i6 o6 i7 o7;simp only[Bool.and_eq_true]at hc;obtain⟨⟨⟨⟨⟨⟨⟨yh,pU⟩,nc⟩,pV⟩,lK⟩,wh⟩,A5⟩,JH⟩:=hc;have one:∀{x:AV},args=[x]->∃cv,aS=#[cv]/\RA ν g0 cv x:=by
  rintro x rfl;have:=dx.1;simp only[List.length_cons,List.length_nil,Nat.zero_add,Array.length_toList]at this;obtain⟨l⟩:=aS
  match l,this with
  |[v],_=>exact⟨v,rfl,dx.2 0 _ _ rfl rfl⟩
 have start:∀{x:AV} {cv:Value},RA ν g0 cv x->ca ν k0 fn.ntmps g0 { tmps:=#[cv]++Array.replicate (fn.ntmps - 1) undef,defers:=[] } ⟨[(0,x)],hp,nx⟩:=by
  intro x cv lx;refine⟨hh,r0,λt x' ht=>?_,by simp;omega,rfl⟩;simp only[bQ,dM]at ht;split at ht
  ·rename_i h0;subst h0;simp only[Option.some.injEq]at ht;subst ht;exact⟨cv,by simp[Array.getElem?_append],lx⟩
  ·cases ht
 have FR:∀(x:AV),aO gh rP false [iz] [0,2] ⟨[(0,x)],hp,nx⟩=some ⟨[(0,x),(2,.iv (.int .i64 0))],hp,nx+1⟩:=λ_=>rfl
 unfold Prim.total at he;split at he
 ·
  simp only[Option.some.injEq,Prod.mk.injEq]at he;obtain⟨rfl,rfl,rfl⟩:=he;obtain⟨cv,rfl,lx⟩:=one rfl;refine calls_of_wp dp hb ?_;refine wp_seq (eW bP db gI cV yh (FR _) (start lx) λg1 a1 m1 fT=>?_);refine wp_seq (wp_seq (eW (keep:=[6]) (s':=⟨[(6,.iv (.bool true))],hp,nx+3⟩) bP db gI cV pU rfl m1 λg2 a2 m2 fU=>?_));have gH:a2.eval (.tmp 6) = .bool true:=by
   have:=ak (ν:=ν) (x:=.tmp 6) (y:=.t 6) m2.f (by rfl);generalize a2.eval (.tmp 6)=u at this;have nd:ev [(6,AV.iv (.bool true))] (.t 6) = .iv (.bool true):=rfl;rw[nd]at this;cases this with
   |iv h=>cases h;rfl
  refine wp_cond gH ?_;simp only[if_true];refine wp_seq (eW (keep:=[2]) (s':=⟨[(2,.iv (.int .i64 0))],hp,nx+4⟩) bP db gI cV nc rfl m2 λg3 a3 m3 Dz=>wp_ret ?_);exact fin g3 a3 _ _ _ m3 ((fT.trans fU).trans Dz)
 ·rename_i id;obtain⟨cv,rfl,lx⟩:=one rfl;split at he
  case h_2=>cases he
  rename_i q0 m qs df;split at he
  case h_2=>cases he
  rename_i aL mM;split at he
  case h_2=>cases he
  rename_i n hn;split at he
  case isFalse=>cases he
  rename_i vg;rw[Nat.ble_eq]at vg;simp only[Option.some.injEq,Prod.mk.injEq]at he;obtain⟨rfl,rfl,rfl⟩:=he;refine calls_of_wp dp hb ?_;refine wp_seq (eW bP db gI cV yh (FR _) (start lx) λg1 a1 m1 fT=>?_);have JI:aO gh rP false [da 5 (.t 0),⟨some 6,.bin .eql 2 (.t 5) (.c (.iv .bc)),none,[]⟩] [0,2,6] ⟨[(0,.ref id 0 0 0),(2,.iv (.int .i64 0))],hp,nx+1⟩ =
    some ⟨[(0,.ref id 0 0 0),(2,.iv (.int .i64 0)),(6,.iv (.bool false))],hp,nx+3⟩:=by
   simp[aO,da,aX,step,bG,dI,bk,nL,aW,M.look,M.run,M.ok,df,valid,bh,ev,aQ,bQ,bb]
  refine wp_seq (wp_seq (eW bP db gI cV pU JI m1 λg2 a2 m2 fU=>?_));have gH:a2.eval (.tmp 6) = .bool false:=by
   have:=ak (ν:=ν) (x:=.tmp 6) (y:=.t 6) m2.f (by rfl);generalize a2.eval (.tmp 6)=u at this;have nd:ev [(0,AV.ref id 0 0 0),(2,.iv (.int .i64 0)),(6,.iv (.bool false))] (.t 6) = .iv (.bool false):=rfl;rw[nd]at this;cases this with
   |iv h=>cases h;rfl
  refine wp_cond gH (wp_skip ?_);simp only[Exit.then];split at pV
  case h_2=>cases pV
  rename_i oa ob oc od oe JJ;simp only[Bool.and_eq_true]at pV;obtain⟨⟨⟨⟨JK,JL⟩,JM⟩,JN⟩,DA⟩:=pV;refine wp_seq (wp_seq (wp_region_list ?_));rw[JJ];refine wpList_step λK hK=>gg (slot:=0) (s1:=⟨[(0,.ref id 0 0 0),(2,.iv (.int .i64 0)),(6,.iv (.bool false)),(7,.ref id 0 0 0)],hp,nx+3⟩) bP db JK m2 rfl λg3 a3 m3 Dz=>hK _ _ ?_
  refine wpList_step λK hK=>gg (slot:=0) (s1:=⟨[(0,.ref id 0 0 0),(2,.iv (.int .i64 0)),(6,.iv (.bool false)),(7,.ref id 0 0 0),(8,.ref id 0 0 0)],hp,nx+3⟩) bP db JL m3
   (by simp[step,bG,dI,bk,aW,M.look,M.run,M.ok,df,valid,bh,ev,bQ];rfl) λg4 a4 m4 rA=>hK _ _ ?_
  refine wpList_step λK hK=>gg (slot:=0) (s1:=⟨[(0,.ref id 0 0 0),(2,.iv (.int .i64 0)),(6,.iv (.bool false)),(7,.ref id 0 0 0),(8,.ref id 0 0 0),(9,.ref id 0 0 1)],hp,nx+3⟩) bP db JM m4
   (by simp[step,bG,dI,bk,eD,aW,M.look,M.run,M.ok,df,valid,bh,ev,bQ];rfl) λg5 a5 m5 CN=>hK _ _ ?_
  refine wpList_step λK hK=>gg (slot:=0) (s1:=⟨[(0,.ref id 0 0 0),(2,.iv (.int .i64 0)),(6,.iv (.bool false)),(7,.ref id 0 0 0),(8,.ref id 0 0 0),(9,.ref id 0 0 1),(10,.ref m 0 0 0)],hp,nx+3⟩) bP db JN m5
   (by simp[step,bG,dI,bk,load,cP,mk,M.lift,aW,M.look,M.run,M.ok,df,bh,ev,bQ];rfl) λg6 a6 m6 JO=>hK _ _ ?_
  obtain⟨mv,JP,JQ⟩:=m6.f 10 (.ref m 0 0 0) rfl;obtain⟨sv,JR,JS⟩:=m6.f 2 (.iv (.int .i64 0)) rfl;obtain rfl:=JS.int;have A6:get g6.h m=some (.map aL):=by rw[m6.h];exact mM
  obtain⟨b,ah,rfl⟩:∃b,g6.φ m=some b/\mv = .map (some b):=by
   cases JQ with
   |ref h1 h=>
    unfold aG at h;simp only[A6]at h;obtain⟨-, -, -,b,ah,rfl⟩:=h;exact⟨b,ah,rfl⟩
  obtain⟨b',es,clock,e1,b8,s8,DB,yl,fp,fX⟩:=m6.r.ob m _ A6;rw[ah]at e1;cases e1;obtain⟨DC,BD⟩:=rU m6.r aL es.toList n (by rw[m6.h];exact hn) (by simpa using yl) λj e p h1 h2=>(fX j e p (by simpa using h1) h2).2
  simp only[wg,Bool.and_eq_true]at DA;obtain⟨q1,q2⟩:=gJ DA.1;have xq:=DA.2;split at xq
  case h_2=>cases xq
  rename_i t kY;split at xq
  case h_2=>cases xq
  rename_i kt et gn;have fg:(execOp a6.eval oe).run P g6.w = .ok (.value (.pointer (some ⟨g6.w.heap.size,0,none⟩))) (g6.w.alloc (.mapIter (some b) clock #[] clock)):=by
   have nd:a6.eval (.tmp 10) = .map (some b):=Has.eval JP;simp[execOp,kY,nd,run_range_map g6.w t kt et b es clock gn DB]
  refine eQ q2 fg (wpList_nil ?_);simp only[Exit.then];rw[q1];have Il:fn.ntmps<=a6.tmps.size:=m6.n;refine wp_block ?_;refine oV (λj a w=>∃seen c0,Has a 2 (.int .i64 (cO es.toList seen))/\Has a 11 (.pointer (some ⟨g6.w.heap.size,0,none⟩))/\a.defers=[]/\fn.ntmps<=a.tmps.size/\g6.w.heap.size<w.heap.size/\
   (∀i,i<g6.w.heap.size->w.heap[i]?=g6.w.heap[i]?)/\w.os=g6.w.os/\w.tape=g6.w.tape/\w.output=g6.w.output/\w.heap[g6.w.heap.size]?=some (.mapIter (some b) clock seen c0)/\clock<=c0/\(leftOf es seen).size<j) ?_ ?_
   (n:=(leftOf es #[]).size+1) ?_
  ·rintro a w ⟨_,_,_,_,_,_,_,_,_,_,_,_,_,h⟩;omega
  case refine_3=>
   refine⟨#[],clock,?_,Has.new (by omega),by rw[put_defers];exact m6.d,by rw[cg];exact Il,by simp,λi hi=>alloc_old _ _ _ hi,rfl,rfl,rfl,heap_alloc_new _ _,Nat.le_refl _,Nat.lt_succ_self _⟩;rw[rR];exact Has.ne JR (by omega)
  ·rintro j a w ⟨seen,c0,hs,DD,hd,bB,FT,hold,pT,A7,sn,hr,u9,KG⟩;have DE:w.heap[b]?=some (.map es clock):=by rw[hold b s8];exact DB
   split at lK
   case h_2=>cases lK
   rename_i na nb JT;simp only[Bool.and_eq_true]at lK;refine wp_seq (wp_region_list ?_);rw[JT];rcases run_next_at (P:=P) w na.type g6.w.heap.size b clock c0 seen es clock hr DE fp.2 u9 with⟨h0,aY⟩|⟨e,gQ,w1,JU,aY⟩
   ·
    obtain⟨p1,p2,p3⟩:=vf lK.1 DD aY;refine eQ p2 p3 ?_;rw[p1];obtain⟨u1,u2,u3⟩:=sS (P:=P) (d:=13) (s:=12) (i:=0) (v:=.bool false) (a:=a.put (some 12) (.tuple #[.bool false])) lK.2 (Has.new (by omega)) rfl w;refine eQ u2 u3 (wpList_nil ?_);rw[u1];simp only[Exit.then];refine wp_seq (wp_cond (t:=false) (Has.eval (Has.new (by rw[cg];omega))) ?_);simp only[Bool.false_eq_true,if_false];refine wp_exit ?_;simp only[Exit.then,Exit.inBlock,if_true];have E5:cO es.toList seen=n:=by rw[rT seen es.toList (all_seen es seen h0),DC]
    have A8:=m6.r.world (w':=w) (I':=g6.I) (λ_ h=>h) (λ_ h=>.inl h) (Nat.le_of_lt FT) pT A7 sn hold;refine wp_seq (eW (g:={ g6 with I:=g6.I,w:=w }) (s:=⟨[(2,.iv (.int .i64 n))],hp,nx⟩) (keep:=[2]) (s':=⟨[(2,.iv (.int .i64 n))],hp,nx+2⟩) bP db gI cV JH rfl
     ⟨m6.h,A8.1,λt x ht=>?_,by simp only[cg];exact bB,by simp only[put_defers];exact hd⟩ λg8 a8 m8 JV=>wp_ret ?_)
    ·simp only[bQ,dM]at ht;split at ht
     ·rename_i h2;subst h2;simp only[Option.some.injEq]at ht;subst ht;refine⟨_,(hs.ne (by omega)).ne (by omega),?_⟩;rw[E5];exact mkInt
     ·cases ht
    ·exact fin g8 a8 _ _ _ m8 ((((((((fT.trans fU).trans Dz).trans rA).trans CN).trans JO).trans A8.2)).trans JV)
   ·
    obtain⟨p1,p2,p3⟩:=vf lK.1 DD aY;refine eQ p2 p3 ?_;rw[p1];obtain⟨u1,u2,u3⟩:=sS (P:=P) (d:=13) (s:=12) (i:=0) (v:=.bool true) (a:=a.put (some 12) (.tuple #[.bool true,e.key,e.val])) lK.2 (Has.new (by omega)) rfl (setBlock w1 g6.w.heap.size (.mapIter (some b) clock (seen.push e.born) clock));refine eQ u2 u3 (wpList_nil ?_);rw[u1];simp only[Exit.then];refine wp_seq (wp_cond (t:=true) (Has.eval (Has.new (by rw[cg];omega))) ?_);simp only[if_true];refine wp_skip ?_;simp only[Exit.then];obtain⟨DF,Im⟩:=mem_left gQ;obtain⟨va,vn,vc,hv⟩:=BD e DF;have qH:w1.heap=w.heap/\w1.os=w.os/\w1.tape=w.tape/\w1.output=w.output:=by rcases JU with rfl | rfl<;>exact⟨rfl,rfl,rfl,rfl⟩
    have kF:w1.heap[g6.w.heap.size]?=some (.mapIter (some b) clock seen c0):=by rw[qH.1];exact hr
    have qn:=MapKept.heap_set (o':=.mapIter (some b) clock (seen.push e.born) clock) kF;generalize wi:setBlock w1 g6.w.heap.size (.mapIter (some b) clock (seen.push e.born) clock)=w2;have xr:w2.heap=w1.heap.setIfInBounds g6.w.heap.size (.mapIter (some b) clock (seen.push e.born) clock):=by rw[<-wi];rfl
    have s5:w2.heap[g6.w.heap.size]?=some (.mapIter (some b) clock (seen.push e.born) clock):=by rw[xr];exact qn.1
    have wj:w2.heap[b]?=some (.map es clock):=by rw[xr,qn.2 b (by omega),qH.1];exact DE
    refine wp_block ?_;split at wh
    case h_2=>cases wh
    rename_i ea eb ec JW;simp only[Bool.and_eq_true]at wh;refine wp_seq (wp_region_list ?_);rw[JW];generalize A9:((a.put (some 12) (.tuple #[.bool true,e.key,e.val])).put (some 13) (.bool true))=vh;have z1:vh.tmps.size=a.tmps.size:=by rw[<-A9,cg,cg]
    have d1:vh.defers=[]:=by rw[<-A9,put_defers,put_defers];exact hd
    have s1:Has vh 2 (.int .i64 (cO es.toList seen)):=by rw[<-A9];exact(hs.ne (by omega)).ne (by omega)
    have t1:Has vh 11 (.pointer (some ⟨g6.w.heap.size,0,none⟩)):=by rw[<-A9];exact(DD.ne (by omega)).ne (by omega)
    obtain⟨p1,p2,p3⟩:=zb (P:=P) wh.1.1 t1 (run_entry_at (P:=P) w2 g6.w.heap.size b clock seen es clock e s5 wj DF fp.1);refine eQ p2 p3 ?_;rw[p1];obtain⟨p1,p2,p3⟩:=sS (P:=P) (d:=15) (s:=14) (i:=1) (v:=e.val) (a:=vh.put (some 14) (.tuple #[e.key,e.val])) wh.1.2 (Has.new (by omega)) rfl w2;refine eQ p2 p3 ?_;rw[p1];obtain⟨p1,p2,p3⟩:=pK (P:=P) wh.2 (Has.new (a:=vh.put (some 14) (.tuple #[e.key,e.val])) (d:=15) (u:=e.val) (by rw[cg];omega)) w2;refine eQ p2 p3 (wpList_nil ?_);rw[p1];simp only[Exit.then];split at A5
    case h_2=>cases A5
    rename_i fa fb fc fd fe JX;simp only[Bool.and_eq_true]at A5;obtain⟨⟨⟨⟨JY,JZ⟩,J0⟩,J1⟩,J2⟩:=A5;refine wp_region_list ?_;rw[JX];generalize zc:(((vh.put (some 14) (.tuple #[e.key,e.val])).put (some 15) e.val).put (some 4) e.val)=rV;have z2:rV.tmps.size=a.tmps.size:=by rw[<-zc,cg,cg,cg,z1]
    have d2:rV.defers=[]:=by rw[<-zc,put_defers,put_defers,put_defers];exact d1
    have s2:Has rV 2 (.int .i64 (cO es.toList seen)):=by rw[<-zc];exact((s1.ne (by omega)).ne (by omega)).ne (by omega)
    have t2:Has rV 11 (.pointer (some ⟨g6.w.heap.size,0,none⟩)):=by rw[<-zc];exact((t1.ne (by omega)).ne (by omega)).ne (by omega)
    have v2:Has rV 4 e.val:=by rw[<-zc];exact Has.new (by rw[cg,cg];omega)
    obtain⟨p1,p2,p3⟩:=pK (P:=P) JY s2 w2;refine eQ p2 p3 ?_;rw[p1];have v3:=v2.ne (d:=16) (u:=.int .i64 (cO es.toList seen)) (by omega);obtain⟨p1,p2,p3⟩:=pK (P:=P) JZ v3 w2;refine eQ p2 p3 ?_;rw[p1];have v4:=Has.new (a:=rV.put (some 16) (.int .i64 (cO es.toList seen))) (d:=17) (u:=e.val) (by rw[cg];omega);rw[hv]at v4;obtain⟨p1,p2,p3⟩:=BB (P:=P) (w:=w2) J0 v4;rw[hv];refine eQ p2 p3 ?_;rw[p1];have x5:Has (((rV.put (some 16) (.int .i64 (cO es.toList seen))).put (some 17) (.slice va vn vc)).put (some 18) (.int .i64 vn)) 16 (.int .i64 (cO es.toList seen)):=
     ((Has.new (by omega)).ne (by omega)).ne (by omega)
    have y5:Has (((rV.put (some 16) (.int .i64 (cO es.toList seen))).put (some 17) (.slice va vn vc)).put (some 18) (.int .i64 vn)) 18 (.int .i64 vn):=Has.new (by rw[cg,cg];omega);obtain⟨p1,p2,p3⟩:=BC (P:=P) (w:=w2) J1 x5 y5;refine eQ p2 p3 ?_;rw[p1];have Ba:cO es.toList (seen.push e.born)=cO es.toList seen+vn:=by rw[rS seen e Im es.toList fp.1 DF,hv];rfl
    have hle:=vb (seen.push e.born) es.toList;rw[DC,Ba]at hle;have E6:IntKind.i64.wrap ((cO es.toList seen:Int)+(vn:Int))=((cO es.toList (seen.push e.born):Nat):Int):=by
     rw[IntWalk.i64_in _ (by omega),Ba];simp
    obtain⟨p1,p2,p3⟩:=pK (P:=P) J2 (Has.new (a:=((rV.put (some 16) (.int .i64 (cO es.toList seen))).put (some 17) (.slice va vn vc)).put (some 18) (.int .i64 vn)) (d:=19)
     (u:=.int .i64 (IntKind.i64.wrap ((cO es.toList seen:Int)+(vn:Int)))) (by rw[cg,cg,cg];omega)) w2
    refine eQ p2 p3 (wpList_nil ?_);rw[p1];simp only[Exit.then,Exit.inBlock];have KK:=left_shrinks es seen e gQ;refine⟨seen.push e.born,clock,?_,?_,?_,?_,?_,?_,?_,?_,?_,s5,Nat.le_refl _,by omega⟩
    ·rw[E6];exact Has.new (by rw[cg,cg,cg,cg];omega)
    ·exact(((((t2.ne (by omega)).ne (by omega)).ne (by omega)).ne (by omega)).ne (by omega))
    ·simp only[put_defers];exact d2
    ·simp only[cg];omega
    ·rw[xr,Array.size_setIfInBounds,qH.1];exact FT
    ·intro i hi;rw[xr,qn.2 i (by omega),qH.1];exact hold i hi
    ·rw[<-wi];show w1.os=_;rw[qH.2.1];exact pT
    ·rw[<-wi];show w1.tape=_;rw[qH.2.2.1];exact A7
    ·rw[<-wi];show w1.output=_;rw[qH.2.2.2];exact sn
 ·cases he
theorem pd {h:Hp} {qs:List (Nat×Ob)} (hq:gq qs h):∀(aL:List (AV×AV)) (n:Nat),Prim.iM h aL=some n->Prim.iM (bE qs h) aL=some n
 |[],n,e=>e
 |p::aL,n,e=>by
  unfold Prim.iM at e ⊢;cases h1:(len false p.2).run h with
  |none=>rw[h1]at e;simp at e
  |some y=>
   obtain⟨y,h2⟩:=y;have hh:h2=h:=by
    unfold len at h1;split at h1
    ·obtain⟨o,hg,e2⟩:=M.aM h1;split at e2
     all_goals first
      |exact(ae e2).elim
      |(obtain⟨_,e4⟩:=M.aj e2
        exact(af e4).2)
    ·exact(af h1).2
    ·exact(af h1).2
    ·exact(af h1).2
    ·exact(ae h1).elim
   subst hh;rw[h1]at e;rw[(M.more (NR.len_ _ _) h1 hq).1];cases h3:Prim.iM h2 aL with
   |none=>rw[h3]at e;split at e<;>simp_all
   |some k=>
    rw[h3]at e;rw[pd hq aL k h3];split at e
    ·rename_i e1 e2;cases e1;cases e2;exact e
    ·cases e
theorem xt:ko Prim.total:=by
 intro c1 cx hx args h nx r h' dN he;unfold Prim.total at he ⊢;split at he
 ·simp only[Option.some.injEq,Prod.mk.injEq]at he;obtain⟨rfl,rfl,rfl⟩:=he;exact⟨λ_ h=>h,λqs _=>rfl⟩
 ·rename_i id;split at he
  case h_2=>cases he
  rename_i q0 m qb df;split at he
  case h_2=>cases he
  rename_i aL mM;split at he
  case h_2=>cases he
  rename_i n hn;split at he
  case isFalse=>cases he
  rename_i vg;simp only[Option.some.injEq,Prod.mk.injEq]at he;obtain⟨rfl,rfl,rfl⟩:=he;refine⟨λ_ h=>h,λqs hq=>?_⟩;rw[fj (hq.not (by unfold On;rw[df];rfl)),df];simp only[];rw[fj (hq.not (by unfold On;rw[mM];rfl)),mM];simp only[];rw[pd hq aL n hn];simp only[vg,if_true]
 ·cases he
def zd (P:Program) (ν:Nat->Nat) (fn:Func) (e:Nat):Bool:=(match fn.body with | some c=>lJ P ν fn.ntmps c e&&cF P fn.results.toList [.t 2] | none=>false)&&!(fn.name=="runtime.NumGoroutine")
def ze (P:Program) (ν:Nat->Nat) (fn:Func):Bool:=(match fn.body with | some c=>ve P ν fn.ntmps c&&cF P fn.results.toList [.t 2] | none=>false)&&!(fn.name=="runtime.NumGoroutine")
theorem kQ (cV:P.follows .mixedOrders=true) {f k' e:Nat} {ir:al} {fn:Func} (hk:P.funcs[k']?=some fn) (pe:ν f=k') (hp:ir.iT=some (Prim.clone e)) (h:zd P ν fn e=true):kz P ν f ir:=by
 simp only[zd,Bool.and_eq_true,Bool.not_eq_true']at h;obtain⟨h1,h2⟩:=h;split at h1
 ·rename_i c hc;simp only[Bool.and_eq_true]at h1;rw[<-pe]at hk;exact .inr ⟨_,hp,λc1 cx _ _ args hp nx r bM dN he=>⟨⟨fn,hk,by simp[hc],h2⟩,qy hk hc cV h1.1 h1.2 he⟩,xp e⟩
 ·cases h1
theorem zf (cV:P.follows .mixedOrders=true) {f k':Nat} {ir:al} {fn:Func} (hk:P.funcs[k']?=some fn) (pe:ν f=k') (hp:ir.iT=some Prim.total) (h:ze P ν fn=true):kz P ν f ir:=by
 simp only[ze,Bool.and_eq_true,Bool.not_eq_true']at h;obtain⟨h1,h2⟩:=h;split at h1
 ·rename_i c hc;simp only[Bool.and_eq_true]at h1;rw[<-pe]at hk;exact .inr ⟨_,hp,λc1 cx _ _ args hp nx r bM dN he=>⟨⟨fn,hk,by simp[hc],h2⟩,Ah hk hc cV h1.1 h1.2 he⟩,xt⟩
 ·cases h1
end
def my (P:Program) (f g:Nat):Prop:=∀(W:World) (Bm b:Nat) (es:Array MapEntry) (clock:Nat) (ks:List Int),W.cell? ⟨Bm,0,none⟩=some (.map (some b))->W.heap[b]?=some (.map es clock)->MapKept.Stamped es clock->
 es.toList.map (·.key)=ks.map (Value.int .i64 ·)->(∀x ∈ ks, -9223372036854775808<=x/\x<=9223372036854775807)->ks.length<=1000000->
 Calls P f #[.func (.func g) #[] #[.pointer (some ⟨Bm,0,none⟩)]] W λe w'=>∃v ss tk,e = .returned v/\ss.Perm ks/\w'.ownsRow W.heap.size tk 1 v ss.length ((ss.mergeSort λx y=>decide (x<=y)).map (Value.int .i64 ·))/\(v = .slice none 0 0↔ss=[])/\Below W.heap.size W w'
theorem qI (n:Int):∀l:List Int,(Prim.ins n l).Perm (n::l)
 |[]=>.refl _
 |m::l=>by
  unfold Prim.ins;split
  ·exact .refl _
  ·exact((qI n l).cons m).trans (.swap ..)
theorem rW (n:Int):∀l:List Int,l.Pairwise (·<= ·)->(Prim.ins n l).Pairwise (·<= ·)
 |[],_=>List.pairwise_singleton _ _
 |m::l,h=>by
  obtain⟨h1,h2⟩:=List.pairwise_cons.1 h;unfold Prim.ins;split
  ·rename_i hn;exact List.pairwise_cons.2 ⟨λx hx=>by rcases List.mem_cons.1 hx with rfl | hx;exact hn;exact Int.le_trans hn (h1 x hx),h⟩
  ·refine List.pairwise_cons.2 ⟨λx hx=>?_,rW n l h2⟩;rcases List.mem_cons.1 ((qI n l).mem_iff.1 hx)with rfl | hx
   ·omega
   ·exact h1 x hx
theorem pf:∀l:List Int,(l.foldr Prim.ins []).Perm l
 |[]=>.refl _
 |n::l=>(qI n _).trans ((pf l).cons n)
theorem qd:∀l:List Int,(l.foldr Prim.ins []).Pairwise (·<= ·)
 |[]=>.nil
 |n::l=>rW n _ (qd l)
theorem BE {ss l:List Int} (h:ss.Perm l):ss.mergeSort (λx y=>decide (x<=y))=l.foldr Prim.ins []:=by
 have hm:(ss.mergeSort λx y=>decide (x<=y)).Pairwise (·<= ·):=(List.pairwise_mergeSort (λa b c h1 h2=>by simp only[decide_eq_true_eq]at *;omega) (λa b=>by simp only[Bool.or_eq_true,decide_eq_true_eq];omega) ss).imp λh=>by simpa using h
 exact List.Perm.eq_of_pairwise (le:=(·<= ·)) (λa b _ _ h1 h2=>Int.le_antisymm h1 h2) hm (qd l) (((List.mergeSort_perm ss _).trans h).trans (pf l).symm)
theorem tj:∀{aL:List (AV×AV)} {l:List Int},Prim.rO aL=some l->l.length=aL.length/\(∀x ∈ l, -9223372036854775808<=x/\x<=9223372036854775807)/\∀(j:Nat) (p:AV×AV),aL[j]?=some p->∃n,l[j]?=some n/\p.1 = .iv (.int .i64 n)
 |[],l,h=>by cases h;exact⟨rfl,λx hx=>by(cases hx),λj p hp=>by simp at hp⟩
 |q::r,l,h=>by
  unfold Prim.rO at h;split at h
  case h_2=>cases h
  rename_i n l' h1 h2;split at h
  case isFalse=>cases h
  rename_i hn;cases h;obtain⟨a1,a2,a3⟩:=tj h2;refine⟨by simp[a1],λx hx=>?_,λj p hp=>?_⟩
  ·rcases List.mem_cons.1 hx with rfl | hx
   ·simpa using hn
   ·exact a2 x hx
  ·cases j with
   |zero=>simp at hp;subst hp;exact⟨n,rfl,h1⟩
   |succ j=>exact a3 j p (by simpa using hp)
theorem qe:∀{l:List Int},Prim.apart l=true->l.Nodup
 |[],_=>.nil
 |n::l,h=>by
  simp only[Prim.apart,Bool.and_eq_true,Bool.not_eq_true',List.contains_eq_mem,decide_eq_false_iff_not]at h;exact List.nodup_cons.2 ⟨h.1,qe h.2⟩
section
variable {ν:Nat->Nat} {P:Program}
theorem zg {f q:Nat} (hS:my P (ν f) (ν q)) {c1:bS} {cx:cA} {args:List AV} {hp:Hp} {nx:Nat} {r:AV} {bM:Hp} {dN:Nat} (he:Prim.sorted q c1 cx args hp nx=some (r,bM,dN)):iX ν P f args hp r bM:=by
 unfold Prim.sorted at he;split at he
 case h_2=>cases he
 rename_i q' v;split at he
 case isFalse=>cases he
 rename_i hq;subst hq;split at he
 case h_2=>cases he
 rename_i m df;split at he
 case h_2=>cases he
 rename_i aL mM;split at he
 case h_2=>cases he
 rename_i l hl;split at he
 case isFalse=>cases he
 rename_i gH;simp only[Bool.and_eq_true,Nat.ble_eq]at gH;simp only[Option.some.injEq,Prod.mk.injEq]at he;obtain⟨rfl,rfl,rfl⟩:=he;obtain⟨l1,l2,l3⟩:=tj hl;intro k0 g0 aS hh r0 dx;subst hh;obtain⟨hlen,fV⟩:=dx;obtain⟨fv,rfl⟩:∃fv,aS=#[fv]:=by
  rcases aS with⟨_ | ⟨x,_ | ⟨y,t⟩⟩⟩<;>simp at hlen
  exact⟨x,rfl⟩
 have nY:=fV 0 fv _ rfl rfl;cases nY with
 |@bp _ first ax _ _ hm hs hn hr=>
  obtain rfl:first=#[]:=by simpa using hm
  obtain⟨pv,rfl⟩:∃pv,ax=#[pv]:=by
   rcases ax with⟨_ | ⟨x,_ | ⟨y,t⟩⟩⟩<;>simp at hn
   exact⟨x,rfl⟩
  have J3:=hr 0 pv _ rfl rfl;cases J3 with
  |ref _ u6=>
   unfold aG at u6;rw[df]at u6;obtain⟨-, -,bv,Io,rfl⟩:=u6;have dB:=r0.ob v _ df;obtain⟨KR,Bb, -, -,jJ⟩:=dB;rw[Io]at Bb;cases Bb;obtain⟨u,hu, -,zh⟩:=jJ 0 _ rfl;cases zh with
   |ref _ zh=>
    unfold aG at zh;rw[mM]at zh;obtain⟨-, -, -,bm,Ip,rfl⟩:=zh;obtain⟨KS,es,clock,Bc, -,DB,yl,bB,bx,Iq⟩:=r0.ob m _ mM;rw[Ip]at Bc;cases Bc;have pL:es.toList.map (·.key)=l.map (Value.int .i64 ·):=by
     refine List.ext_getElem? λj=>?_
     rw[List.getElem?_map,List.getElem?_map];by_cases hj:j<aL.length
     ·obtain⟨n,yA,yB⟩:=l3 j aL[j] (List.getElem?_eq_getElem hj);have FU:j<es.size:=by omega
      have DG:=(Iq j es[j] aL[j] (Array.getElem?_eq_getElem FU) (List.getElem?_eq_getElem hj)).1;rw[yB]at DG;have hk:es[j].key = .int .i64 n:=by
       generalize es[j].key=kk at DG;cases DG with
       |iv h=>cases h with | int _ _=>rfl
      rw[yA,Array.getElem?_toList,Array.getElem?_eq_getElem FU];simp[hk]
     ·rw[List.getElem?_eq_none (by simp;omega),List.getElem?_eq_none (by omega)];rfl
    have fp:MapKept.Stamped es clock:=⟨bx.2,bx.1,by rw[pL];exact List.pairwise_map.2 ((qe gH.1).imp λh e=>h (by injection e))⟩;refine(hS g0.w bv bm es clock l hu yl fp pL l2 gH.2).mono ?_;rintro e w' ⟨v',ss,tk,rfl,rX,aC,mC,hb⟩;have KH:=rX.length_eq;rw[BE rX]at aC;have dV:=pf l;have KT:=dV.length_eq;generalize l.foldr Prim.ins []=so at *;by_cases hz:l=[]
    ·subst hz;obtain rfl:ss=[]:=rX.eq_nil;obtain rfl:=mC.2 rfl;have hw:=r0.world (w':=w') (I':=g0.I) (λ_ h=>h) (λ_ h=>.inl h) hb.size hb.os hb.tape hb.output λb h=>hb.block b h
     exact⟨_,{ g0 with w:=w' },rfl,rfl,rfl,hw.1,hw.2,.iv (.aq none 1)⟩
    ·obtain⟨hx,⟨rfl,h0⟩|⟨gb,cap,cur,rfl,E7,FV,eH, -,KL,E8⟩⟩:=aC
     ·exact absurd (List.eq_nil_of_length_eq_zero (by omega)) hz
     ·have J4:gb<w'.heap.size:=(Array.getElem?_eq_some_iff.1 FV).1;have hw:=r0.world (w':=w') (I':=λb=>g0.I b\/b=gb) (λ_ h=>.inl h) (λb h=>by rcases h with h | rfl;exact .inl h;exact .inr ⟨E7,J4⟩) hb.size hb.os hb.tape hb.output λb h=>hb.block b h
      have DH:∀(i:Nat) (n:Int),so[i]?=some n->w'.cell? ⟨gb,i,none⟩=some (.int .i64 n):=λi n hi=>by
       have h1:(cur.toList.take (ss.length*1))[i]?=some (.int .i64 n):=by rw[E8,List.getElem?_map,hi];rfl
       rw[List.getElem?_take]at h1;split at h1
       ·simp only[World.cell?,FV];simpa using h1
       ·cases h1
      have bF:l.isEmpty=false:=by cases l with | nil=>exact absurd rfl hz | cons=>rfl
      rw[bF];refine⟨_,⟨λb=>g0.I b\/b=gb,g0.φ,w',g0.h⟩,rfl,rfl,rfl,hw.1,hw.2,.iv ?_⟩;simp only[Bool.false_eq_true,if_false];refine .sl gb 0 ss.length cap 1 (so.map λn=>[.int .i64 n]) (λi _=>.int .i64 ((so[i]?).getD 0)) (.inr rfl) (by rw[List.length_map];omega) eH (λc hc=>by obtain⟨n, -,rfl⟩:=List.mem_map.1 hc;rfl) (λi j c x h1 h2=>?_) (λi j c x h1 h2=>?_)
      ·rw[List.getElem?_map]at h1;cases hi:so[i]? with
       |none=>rw[hi]at h1;cases h1
       |some n=>
        rw[hi]at h1;cases h1;cases j with
        |zero=>have:=DH i n hi;simpa using this
        |succ j=>simp at h2
      ·rw[List.getElem?_map]at h1;cases hi:so[i]? with
       |none=>rw[hi]at h1;cases h1
       |some n=>
        rw[hi]at h1;cases h1;cases j with
        |zero=>simp at h2;subst h2;exact .int .i64 n
        |succ j=>simp at h2
theorem vI (q:Nat):ko (Prim.sorted q):=by
 intro c1 cx hx args h nx r h' dN he;unfold Prim.sorted at he ⊢;split at he
 case h_2=>cases he
 rename_i q' v;split at he
 case isFalse=>cases he
 rename_i hq;split at he
 case h_2=>cases he
 rename_i m df;split at he
 case h_2=>cases he
 rename_i aL mM;split at he
 case h_2=>cases he
 rename_i l hl;split at he
 case isFalse=>cases he
 rename_i gH;simp only[Option.some.injEq,Prod.mk.injEq]at he;obtain⟨rfl,rfl,rfl⟩:=he;refine⟨λ_ h=>h,λqs FW=>?_⟩;simp only[hq,if_true];rw[fj (FW.not (by unfold On;rw[df];rfl)),df];simp only[];rw[fj (FW.not (by unfold On;rw[mM];rfl)),mM];simp only[hl,gH,if_true]
theorem zi (q:Nat):pb (Prim.sorted q):=λ_ _ _ _ _ _ _ _ _ _ e=>e
theorem xu {f k' q kq:Nat} {ir:al} {fn:Func} (hk:P.funcs[k']?=some fn) (pe:ν f=k') (hq:ν q=kq) (hp:ir.iT=some (Prim.sorted q)) (hb:(fn.body.isSome&&!(fn.name=="runtime.NumGoroutine"))=true) (hS:my P k' kq):kz P ν f ir:=by
 simp only[Bool.and_eq_true,Bool.not_eq_true']at hb;subst pe;subst hq;exact .inr ⟨_,hp,λc1 cx _ _ args hp nx r bM dN he=>⟨⟨fn,hk,hb.1,hb.2⟩,zg hS he⟩,vI q⟩
end
end aB
namespace aB
open Go Go.RowKit Go.WideShapes ao
inductive Sh where
 |bool
 |int (k:IntKind)
 |str
 |sl (es:List Sh)
 |ex
 deriving Inhabited
def iy:List Sh:=[.int .i64,.int .i64,.bool,.sl [.int .i64,.int .i64],.bool,.sl [.str],.ex]
mutual
inductive Fit:Sh->IV->Prop
 |bool (b:Bool):Fit .bool (.bool b)
 |int (k:IntKind) (n:Int) (h:(Lit.int k n).wf=true):Fit (.int k) (.int k n)
 |str (s:ByteArray) (h:s.size<=maxLen):Fit .str (.str s)
 |sl (es:List Sh) (rows:List (List IV)) (h:rows.length<=maxLen) (hr:∀r ∈ rows,bT es r):Fit (.sl es) (.sl es.length rows)
 |ex (rows:List (List IV)) (h:rows.length<=maxLen) (hr:∀r ∈ rows,bT iy r):Fit .ex (.sl 7 rows)
inductive bT:List Sh->List IV->Prop
 |nil:bT [] []
 |cons {s:Sh} {ss:List Sh} {x:IV} {xs:List IV} (h:Fit s x) (hs:bT ss xs):bT (s::ss) (x::xs)
end
theorem bT.append:∀{ss ts:List Sh} {xs ys:List IV},bT ss xs->bT ts ys->bT (ss++ts) (xs++ys)
 |[],_,[],_,_,h=>h
 |_::_,_,_::_,_,.cons h hs,h'=>.cons h (bT.append hs h')
def nk (P:Program) (r:TypeId->List Sh->Bool):Nat->List Field->List Sh->Bool
 |_,[],ss=>ss.isEmpty
 |off,f::fs,ss=>f.offset==off&&Nat.ble (P.cellsOf f.type) ss.length&&r f.type (ss.take (P.cellsOf f.type))&&nk P r (off+P.cellsOf f.type) fs (ss.drop (P.cellsOf f.type))
def pg (r:List Sh->Bool) (c:Nat):Nat->List Sh->Bool
 |0,ss=>ss.isEmpty
 |n+1,ss=>Nat.ble c ss.length&&r (ss.take c)&&pg r c n (ss.drop c)
def ph (P:Program) (eT:TypeId):Nat->TypeId->List Sh->Bool
 |0,_,_=>false
 |d+1,t,ss=>match P.underlying t with
  |some .bool=>(match ss with | [.bool]=>true | _=>false)
  |some (.int k)=>(match ss with | [.int k']=>k==k' | _=>false)
  |some .string=>(match ss with | [.str]=>true | _=>false)
  |some (.slice e)=>(match ss with | [.sl es]=>P.cellsOf e==es.length&&Nat.blt 0 es.length&&ph P eT d e es | [.ex]=>e==eT | _=>false)
  |some (.struct fs)=>P.cellsOf t==ss.length&&nk P (ph P eT d) 0 fs.toList ss
  |some (.array n e)=>P.cellsOf t==ss.length&&pg (ph P eT d e) (P.cellsOf e) n ss
  |_=>false
section
variable {H:Type} {enc:TypeId×Value->H} {P:Program} {w:World} {base:Nat} {spare:Nat->Bool} {held:Bool} {ν:Nat->Nat}
def Old (w:World) (b:Nat):Prop:=b<w.heap.size
def Reads (ν:Nat->Nat) (w:World) (ss:List Sh) (cs:List Value) (xs:List IV):Prop:=
 xs.length=cs.length/\bT ss xs/\∀(j:Nat) (v:Value) (x:IV),cs[j]?=some v->xs[j]?=some x->RI ν (Old w) w v x
theorem Reads.one {s:Sh} {v:Value} {x:IV} (h:Fit s x) (hr:RI ν (Old w) w v x):Reads ν w [s] [v] [x]:=
 ⟨rfl,.cons h .nil,λj v' x' h1 h2=>by cases j with | zero=>simp at h1 h2;subst h1 h2;exact hr | succ j=>simp at h1⟩
theorem Reads.append {ss ts:List Sh} {cs ds:List Value} {xs ys:List IV} (h:Reads ν w ss cs xs) (h':Reads ν w ts ds ys):Reads ν w (ss++ts) (cs++ds) (xs++ys):=by
 refine⟨by simp[h.1,h'.1],h.2.1.append h'.2.1,λj v x h1 h2=>?_⟩;by_cases hj:j<cs.length
 ·rw[List.getElem?_append_left hj]at h1;rw[List.getElem?_append_left (by rw[h.1];exact hj)]at h2;exact h.2.2 j v x h1 h2
 ·rw[List.getElem?_append_right (by omega)]at h1;rw[List.getElem?_append_right (by rw[h.1];omega),h.1]at h2;exact h'.2.2 _ v x h1 h2
def sT (eT:TypeId) (ν:Nat->Nat) (enc:TypeId×Value->H) (P:Program) (w:World) (base:Nat) (spare:Nat->Bool) (held:Bool) (d n:Nat):Prop:=
 ∀(t:TypeId) (ss:List Sh) (cs:List Value) (x:DataW H×List MemPlace),ph P eT d t ss=true->DataW.trod enc P w base spare held n t cs=some x->∃xs,Reads ν w ss cs xs
theorem qf {eT:TypeId} {d n:Nat} (ih:sT eT ν enc P w base spare held d n) {all:List Value}:∀(fs:List Field) (off:Nat) (ss:List Sh) (cs:List Value),nk P (ph P eT d) off fs ss=true->cs=all.drop off->cs.length=ss.length->
  (∀f ∈ fs,∃y,DataW.trod enc P w base spare held n f.type ((all.drop f.offset).take (P.cellsOf f.type))=some y)->∃xs,Reads ν w ss cs xs
 |[],off,ss,cs,h,jJ,hl,_=>by
  simp only[nk,List.isEmpty_iff]at h;subst h;have:cs=[]:=List.eq_nil_of_length_eq_zero (by simpa using hl);subst this;exact⟨[],rfl,.nil,λj v x h=>by simp at h⟩
 |f::fs,off,ss,cs,h,jJ,hl,hf=>by
  simp only[nk,Bool.and_eq_true,beq_iff_eq,Nat.ble_eq]at h;obtain⟨⟨⟨h1,h2⟩,h3⟩,h4⟩:=h;obtain⟨y,hy⟩:=hf f (List.mem_cons_self ..);rw[h1,<-jJ]at hy;obtain⟨xs,hx⟩:=ih _ _ _ _ h3 hy;obtain⟨ys,hy⟩:=qf ih (all:=all) fs _ _ (cs.drop (P.cellsOf f.type)) h4 (by rw[jJ,List.drop_drop]) (by simp[hl]) λg hg=>hf g (List.mem_cons_of_mem _ hg)
  refine⟨xs++ys,?_⟩;have:=hx.append hy
  rwa [List.take_append_drop,List.take_append_drop]at this
theorem rY {eT:TypeId} {d n:Nat} (ih:sT eT ν enc P w base spare held d n) {e:TypeId} {all:List Value}:∀(m i:Nat) (ss:List Sh) (cs:List Value),pg (ph P eT d e) (P.cellsOf e) m ss=true->cs=all.drop (i*P.cellsOf e)->cs.length=ss.length->
  (∀j,i<=j->j<i+m->∃y,DataW.trod enc P w base spare held n e ((all.drop (j*P.cellsOf e)).take (P.cellsOf e))=some y)->∃xs,Reads ν w ss cs xs
 |0,i,ss,cs,h,jJ,hl,_=>by
  simp only[pg,List.isEmpty_iff]at h;subst h;have:cs=[]:=List.eq_nil_of_length_eq_zero (by simpa using hl);subst this;exact⟨[],rfl,.nil,λj v x h=>by simp at h⟩
 |m+1,i,ss,cs,h,jJ,hl,hf=>by
  simp only[pg,Bool.and_eq_true,Nat.ble_eq]at h;obtain⟨⟨h2,h3⟩,h4⟩:=h;obtain⟨y,hy⟩:=hf i (Nat.le_refl _) (by omega);rw[<-jJ]at hy;obtain⟨xs,hx⟩:=ih _ _ _ _ h3 hy;obtain⟨ys,hy⟩:=rY ih (all:=all) m (i+1) _ (cs.drop (P.cellsOf e)) h4 (by rw[jJ,List.drop_drop,Nat.add_mul,Nat.one_mul]) (by simp[hl]) λj hj mU=>hf j (by omega) (by omega)
  refine⟨xs++ys,?_⟩;have:=hx.append hy
  rwa [List.take_append_drop,List.take_append_drop]at this
theorem rZ {n:Nat} {t e:TypeId} {es:List Sh} {cs:List Value} {x:DataW H×List MemPlace} (hu:P.underlying t=some (.slice e)) (hc:P.cellsOf e=es.length) (nN:0<es.length)
  (eI:∀m,m<n->∀(ci:List Value) (y:DataW H×List MemPlace),DataW.trod enc P w base spare held m e ci=some y->∃xs,Reads ν w es ci xs) (hx:DataW.trod enc P w base spare held n t cs=some x) :
  ∃(v:Value) (rows:List (List IV)),cs=[v]/\rows.length<=maxLen/\(∀r ∈ rows,bT es r)/\RI ν (Old w) w v (.sl es.length rows):=by
 rcases DataW.trod_slice hu hx with⟨rfl,_⟩|⟨a,len,cap,elems,rest,m,Bd,rfl,_,hb,hl,hm,gQ,cf,_,_⟩
 ·exact⟨_,[],rfl,by simp,λr h=>(by simp at h),.dU _ _ _⟩
 ·by_cases h0:len=0
  ·subst h0;exact⟨_,[],rfl,by simp,λr h=>(by simp at h),.dU _ _ _⟩
  ·have each:∀i,i<len->∃(ci:List Value) (xi:List IV),w.cells? base (a.add (i*es.length)) es.length=some ci/\Reads ν w es ci xi:=by
    intro i hi;have:=cf i hi;rw[hc,List.getElem?_eq_getElem (by omega),Option.bind_eq_some_iff]at this;obtain⟨ci,h1,h2⟩:=this;obtain⟨xi,h3⟩:=eI m (by omega) ci _ h2;exact⟨ci,xi,h1,h3⟩
   have hex:∀i,∃p:List Value×List IV,i<len->w.cells? base (a.add (i*es.length)) es.length=some p.1/\Reads ν w es p.1 p.2:=λi=>by
    by_cases hi:i<len
    ·obtain⟨ci,xi,h1,h2⟩:=each i hi;exact⟨(ci,xi),λ_=>⟨h1,h2⟩⟩
    ·exact⟨([],[]),λh=>absurd h hi⟩
   obtain⟨p,hp⟩:=Classical.axiomOfChoice hex;have df:∀i j,i<len->j<es.length->w.cell? (a.add (i*es.length+j))=(p i).1[j]?:=λi j hi hj=>by
    have:=(World.cells?_some (hp i hi).1).2.2 j hj
    rwa [show(a.add (i*es.length)).add j=a.add (i*es.length+j) by simp only[Addr.add];by_cases h1:i*es.length=0<;>by_cases h2:j=0<;>simp[h1,h2,Nat.add_assoc]]at this
   have hlen:∀i,i<len->(p i).1.length=es.length:=λi hi=>(World.cells?_some (hp i hi).1).2.1
   have J5:∃v,w.cell? (a.add 0)=some v:=by
    have:=df 0 0 (by omega) nN;simp only[Nat.zero_mul,Nat.add_zero]at this;exact⟨(p 0).1[0]'(by rw[hlen 0 (by omega)];exact nN),by rw[this];exact List.getElem?_eq_getElem _⟩
   obtain⟨v0,FX⟩:=J5;obtain⟨b,off,spot⟩:=a;have E9:spot=none:=by simpa[Addr.add]using World.cell?_spot FX
   subst E9;have dh:b<w.heap.size:=by
    rcases Nat.lt_or_ge b w.heap.size with h | h
    ·exact h
    ·simp[Addr.add,World.cell?,Array.getElem?_eq_none h]at FX
   refine⟨_,(List.range len).map λi=>(p i).2,rfl,by simp;omega,λr hr=>?_,
    .sl b off len cap es.length _ (λi j=>((p i).1[j]?).getD undef) dh (by simp) hl (λc hc=>?_) (λi j c x h1 h2=>?_) λi j c x h1 h2=>?_⟩
   ·simp only[List.mem_map,List.mem_range]at hr;obtain⟨i,hi,rfl⟩:=hr;exact(hp i hi).2.2.1
   ·simp only[List.mem_map,List.mem_range]at hc;obtain⟨i,hi,rfl⟩:=hc;rw[(hp i hi).2.1,hlen i hi]
   ·simp only[List.getElem?_map,Option.map_eq_some_iff]at h1;obtain⟨i',bY,rfl⟩:=h1;have hi:=ay bY;simp only[List.length_range]at hi;rw[List.getElem?_range hi,Option.some.injEq]at bY;subst bY;have hj:j<es.length:=by have:=ay h2;rwa [(hp i hi).2.1,hlen i hi]at this
    have:=df i j hi hj;rw[Addr.add_lit]at this;rw[show off+i*es.length+j=off+(i*es.length+j) by omega,this,List.getElem?_eq_getElem (by rw[hlen i hi];exact hj)];rfl
   ·simp only[List.getElem?_map,Option.map_eq_some_iff]at h1;obtain⟨i',bY,rfl⟩:=h1;have hi:=ay bY;simp only[List.length_range]at hi;rw[List.getElem?_range hi,Option.some.injEq]at bY;subst bY;have hj:j<(p i).1.length:=by have:=ay h2;rwa [(hp i hi).2.1]at this
    refine(hp i hi).2.2.2 j _ x ?_ h2;rw[List.getElem?_eq_getElem hj];rfl
theorem Ai {eT:TypeId} (hE:ph P eT 9 eT iy=true) (DI:P.cellsOf eT=iy.length):∀(n d:Nat),sT eT ν enc P w base spare held d n:=by
 intro n
 induction n using Nat.strongRecOn with
 |_ n ih=>
  intro d t ss cs x h hx;obtain⟨d,rfl⟩:∃d',d=d'+1:=by
   cases d with
   |zero=>simp[ph]at h
   |succ d=>exact⟨d,rfl⟩
  unfold ph at h;split at h
  ·rename_i hu;split at h
   ·obtain⟨b,rfl,_⟩:=DataW.trod_bool hu hx;exact⟨_,Reads.one (.bool b) (.bool b)⟩
   ·cases h
  ·rename_i k hu;split at h
   ·rename_i k';have:=beq_iff_eq.1 h;subst this;obtain⟨m,rfl,_,hw⟩:=DataW.trod_int hu hx;exact⟨_,Reads.one (.int _ m hw) (.int _ _)⟩
   ·cases h
  ·rename_i hu;split at h
   ·obtain⟨s,rfl,_,hw⟩:=DataW.trod_string hu hx;exact⟨_,Reads.one (.str s hw) (.str s)⟩
   ·cases h
  ·rename_i e hu;split at h
   ·rename_i es;simp only[Bool.and_eq_true,beq_iff_eq,Nat.blt_eq]at h;obtain⟨⟨hc,nN⟩,tg⟩:=h;obtain⟨v,rows,rfl,h1,h2,h3⟩:=rZ hu hc nN (λm hm ci y hy=>ih m hm d e es ci y tg hy) hx;exact⟨_,Reads.one (.sl es rows h1 h2) h3⟩
   ·have:=beq_iff_eq.1 h;subst this;obtain⟨v,rows,rfl,h1,h2,h3⟩:=rZ (es:=iy) hu DI (by decide) (λm hm ci y hy=>ih m hm 9 _ iy ci y hE hy) hx;exact⟨_,Reads.one (.ex rows h1 h2) h3⟩
   ·cases h
  ·rename_i fs hu;simp only[Bool.and_eq_true,beq_iff_eq]at h;obtain⟨xs,m,Bd,_,hlen,oT,cf⟩:=DataW.trod_struct hu hx;refine qf (ih m (by omega) d) (all:=cs) fs.toList 0 ss cs h.2 rfl (by rw[hlen,h.1]) λf hf=>?_
   obtain⟨i,hi⟩:=List.getElem?_of_mem hf;have:=cf i f (by simpa using hi);have aT:i<xs.length:=by have:=ay hi;simp at this;omega
   rw[List.getElem?_eq_getElem aT]at this;exact⟨_,this⟩
  ·rename_i q e hu;simp only[Bool.and_eq_true,beq_iff_eq]at h;obtain⟨xs,m,Bd,_,hlen,oT,cf⟩:=DataW.trod_array hu hx;refine rY (ih m (by omega) d) (all:=cs) q 0 ss cs h.2 (by simp) (by rw[hlen,h.1]) λj _ hj=>?_
   have:=cf j (by omega);rw[List.getElem?_eq_getElem (by omega)]at this;exact⟨_,this⟩
  ·cases h
def xv (agg:Bool) (ss:List Sh) (x:AV):Prop:=∃xs,bT ss xs/\(if agg then x = .agg (xs.map .iv) else ∃y,xs=[y]/\x = .iv y)
def DJ (P:Program) (eT t:TypeId) (agg:Bool) (ss:List Sh):Bool:=ph P eT 9 eT iy&&P.cellsOf eT==iy.length&&ph P eT 9 t ss&&(match P.underlying t with | some d=>gN d==agg | none=>false)
theorem Aj {r:Reach} {b0:Nat} {eT t:TypeId} {agg:Bool} {ss:List Sh} (ht:DJ P eT t agg ss=true) {v:Value} (fX:Value.okWide P w r b0 t v) {d:DataW H} {ps:List MemPlace} (h:DataW.Trod enc P w base spare held t v d ps)
  {g:Gh} (hI:g.I=Old w) (hw:g.w=w):∃x,xv agg ss x/\RA ν g v x:=by
 obtain⟨n,hn⟩:=h;simp only[DJ,Bool.and_eq_true,beq_iff_eq]at ht;obtain⟨⟨⟨hE,DI⟩,tg⟩,di⟩:=ht;obtain⟨xs,hx⟩:=Ai (ν:=ν) hE DI n 9 t ss _ _ tg hn;unfold Value.okWide at fX;split at di
 ·rename_i dd hu;rw[beq_iff_eq]at di;subst di;have ey:gN dd=true->∃cs,v = .agg cs:=by
   intro h;rw[hu]at fX;cases dd<;>simp[gN]at h<;>(obtain⟨cs,rfl,_⟩:=fX;exact⟨cs,rfl⟩)
  cases hd:gN dd with
  |true=>
   obtain⟨cs,rfl⟩:=ey hd;refine⟨.agg (xs.map .iv),⟨xs,hx.2.1,by simp⟩,.agg (by have:=hx.1;simp[Value.cells]at this;simp[this]) (λj v hv=>?_) λj v c hv hc=>?_⟩
   ·have hj:j<xs.length:=by have:=(Array.getElem?_eq_some_iff.1 hv).1;have h2:=hx.1;simp[Value.cells]at h2;omega
    exact(hx.2.2 j v _ (by simpa[Value.cells]using hv) (List.getElem?_eq_getElem hj)).one
   ·simp only[List.getElem?_map,Option.map_eq_some_iff]at hc;obtain⟨y,hy,rfl⟩:=hc;refine .iv ?_;rw[hI,hw];exact hx.2.2 j v y (by simpa[Value.cells]using hv) hy
  |false=>
   have h1:v.cells.toList.length=1\/True:=.inr trivial;clear h1;have ef:∃c,v.cells.toList=[c]/\c=v:=by
    cases v<;>first | exact⟨_,rfl,rfl⟩|skip
    ·rename_i cs;exfalso;rw[hu]at fX;cases dd<;>simp[gN]at hd<;>simp[Cell.okWide,Cell.ok]at fX
   obtain⟨c,hc,rfl⟩:=ef;rw[hc]at hx;have oT:=hx.1
   match xs,oT with
   |[y],_=>
    refine⟨.iv y,⟨[y],hx.2.1,by simp⟩,.iv ?_⟩;rw[hI,hw];exact hx.2.2 0 c y rfl rfl
 ·cases di
end
end aB
namespace ao
open Go Go.RowKit Go.WideShapes
inductive Sh where
 |bool
 |int (k:IntKind)
 |str
 |sl (es:List Sh)
 deriving Inhabited
mutual
def Fits:Sh->IV->Prop
 |.bool,x=>∃b,x = .bool b
 |.int k,x=>∃n,x = .int k n/\(Lit.int k n).wf=true
 |.str,x=>∃s,x = .str s/\s.size<=maxLen
 |.sl es,x=>∃rows,x = .sl es.length rows/\rows.length<=maxLen/\∀r ∈ rows,eY es r
def eY:List Sh->List IV->Prop
 |[],[]=>True
 |s::ss,x::xs=>Fits s x/\eY ss xs
 |_,_=>False
end
theorem eY.append:∀{ss ts:List Sh} {xs ys:List IV},eY ss xs->eY ts ys->eY (ss++ts) (xs++ys)
 |[],_,[],_,_,h=>h
 |_::_,_,_::_,_,h,h'=>⟨h.1,eY.append h.2 h'⟩
 |[],_,_::_,_,h,_=>h.elim
 |_::_,_,[],_,h,_=>h.elim
section
variable {H:Type} {enc:TypeId×Value->H} {P:Program} {w:World} {base:Nat} {spare:Nat->Bool} {held:Bool} {ν:Nat->Nat}
def Old (w:World) (b:Nat):Prop:=b<w.heap.size
def Reads (ν:Nat->Nat) (w:World) (ss:List Sh) (cs:List Value) (xs:List IV):Prop:=
 xs.length=cs.length/\eY ss xs/\∀(j:Nat) (v:Value) (x:IV),cs[j]?=some v->xs[j]?=some x->RI ν (Old w) w v x
theorem Reads.one {s:Sh} {v:Value} {x:IV} (h:Fits s x) (hr:RI ν (Old w) w v x):Reads ν w [s] [v] [x]:=
 ⟨rfl,⟨h,trivial⟩,λj v' x' h1 h2=>by cases j with | zero=>simp at h1 h2;subst h1 h2;exact hr | succ j=>simp at h1⟩
theorem Reads.append {ss ts:List Sh} {cs ds:List Value} {xs ys:List IV} (h:Reads ν w ss cs xs) (h':Reads ν w ts ds ys):Reads ν w (ss++ts) (cs++ds) (xs++ys):=by
 refine⟨by simp[h.1,h'.1],h.2.1.append h'.2.1,λj v x h1 h2=>?_⟩;by_cases hj:j<cs.length
 ·rw[List.getElem?_append_left hj]at h1;rw[List.getElem?_append_left (by rw[h.1];exact hj)]at h2;exact h.2.2 j v x h1 h2
 ·rw[List.getElem?_append_right (by omega)]at h1;rw[List.getElem?_append_right (by rw[h.1];omega),h.1]at h2;exact h'.2.2 _ v x h1 h2
end
end ao
namespace ao
open Go

structure S where
 a:Bool
 i:List (Int×Int)
 c:Bool
 s:List ByteArray
def tl (p:Int×Int):List IV:=[.int .i64 p.1,.int .i64 p.2]
def r3 (s:ByteArray):List IV:=[.str s]
def S.enc (x:S):List IV:=[.bool x.a,.sl 2 (x.i.map tl),.bool x.c,.sl 1 (x.s.map r3)]
def S.av (x:S):AV:=.agg [.iv (.bool x.a),.iv (.sl 2 (x.i.map tl)),.iv (.bool x.c),.iv (.sl 1 (x.s.map r3))]
structure B where
 s0:S
 s1:S
 s2:S
 s3:S
def B.enc (b:B):List IV:=b.s0.enc++(b.s1.enc++(b.s2.enc++b.s3.enc))
def eu (l:List S):AV:=.iv (.sl 4 (l.map S.enc))
theorem gu {k N:Nat} (h:k<N) (hN:N<=maxLen):IntKind.i64.wrap ((k:Int)+1)=(k:Int)+1:=IntWalk.i64_in _ (by unfold maxLen at hN;omega)
theorem gR {α:Type} {l:List α} {i:Nat} {x:α} {f:α->Bool} (hx:l[i]?=some x):(l.take (i+1)).all f=((l.take i).all f&&f x):=by
 rw[List.take_add_one,hx];simp
theorem all_false {α:Type} {l:List α} {i:Nat} {x:α} {f:α->Bool} (hx:l[i]?=some x) (h:f x=false):l.all f=false:=by
 rw[List.all_eq_false];exact⟨x,List.mem_of_getElem? hx,by simp[h]⟩
theorem nq (n0:Nat) (h:Hp) (x:IV):nrm n0 h 8 (.iv x) = .iv x:=rfl
theorem kr (n0:Nat) (h:Hp):∀l:List IV,(l.map AV.iv).map (nrm n0 h 8)=l.map .iv
 |[]=>rfl
 |x::r=>by rw[List.map_cons,List.map_cons,nq,kr n0 h r]
theorem nS {prog:Nat->Option al} {keep:List Nat} {b:IC} {s:St} {Q:Ex->St->Prop} (N:Nat) (σ:Nat->St) (G:Nat->Prop) (h0:({ s with fr:=bb keep s.fr }:St)=σ 0) (g0:G 0)
  (round:∀i,i<N->G i->Wp prog b (σ i) (Ex.then (λs2=>again keep s.nx s2=σ (i+1)/\G (i+1)) Q)) (stop:G N->Wp prog b (σ N) (Ex.then (λ_=>False) Q)):Wp prog (.loop keep b) s Q:=by
 refine pD (λm s1=>∃i,i+m=N/\s1=σ i/\G i) (m:=N) ⟨0,by omega,h0,g0⟩ ?_;rintro m s1 ⟨i,hi,rfl,hg⟩;cases m with
 |zero=>
  obtain rfl:i=N:=by omega
  refine(stop hg).mono λe s2 h=>?_
  cases e with
  |norm=>exact h.elim
  |exit j=>exact h
  |ret=>exact h
 |succ m=>
  refine(round i (by omega) hg).mono λe s2 h=>?_
  cases e with
  |norm=>exact⟨m,by omega,i+1,by omega,h.1,h.2⟩
  |exit j=>exact h
  |ret=>exact h
end ao
namespace ao
open Go
attribute [local simp] aO Option.map_some aX step bG bk aW M.aJ M.run M.ok M.fresh M.write M.look M.lift bh ao.set ev ao.get bb bin ew hY mk params bU load cP eD fk gX eE eF idx len valid hU bound store cn ep un eqs jv bC bu M.bz fS cC ed c9 meets gv gM callee ek gL fz flat jf jE l6 Option.bind_some fl M.bind
section
variable {prog:Nat->Option al}
end
def B.get (b:B):Nat->S
 |0=>b.s0
 |1=>b.s1
 |2=>b.s2
 |_=>b.s3
def B.cs (b:B):List AV:=b.enc.map .iv
def B.av (b:B):AV:=.agg b.cs
theorem B.jb (b:B):b.cs.length=16:=rfl
theorem B.jc (b:B) (n0:Nat) (h:Hp):b.cs.map (nrm n0 h 8)=b.cs:=kr n0 h b.enc
def notNil:IV->Bool
 |.aq _=>false
 |_=>true
theorem iN:∀(l:List IV) (s:Nat),l.all notNil=true->ep s (l.map .iv) = .ret (l.map .iv)
 |[],s,_=>by simp[ep]
 |x::r,s,h=>by
  simp only[List.all_cons,Bool.and_eq_true]at h;have ih:=iN r (s+1) h.2;cases x with
  |aq e=>simp[notNil]at h
  |_=>simp only[List.map_cons,ep,ih,M.bind]
theorem jD (w:Bool):∀(l:List IV),l.all notNil=true->M.aJ (gL w) (l.map .iv) = .ret (l.map .iv)
 |[],_=>by simp[M.aJ]
 |x::r,h=>by
  simp only[List.all_cons,Bool.and_eq_true]at h;have ih:=jD w r h.2;cases x with
  |aq e=>simp[notNil]at h
  |_=>rw[List.map_cons,M.aJ,ih];rfl
theorem B.dT (b:B):b.enc.all notNil=true:=by simp[B.enc,S.enc,notNil]
theorem B.iA (b:B) (w:Bool):M.aJ (gL w) b.cs = .ret b.cs:=jD w b.enc b.dT
theorem B.gi (b:B) (s:Nat):ep s b.cs = .ret b.cs:=iN b.enc s (by simp[B.enc,S.enc,notNil])
section
variable {prog:Nat->Option al}
end
def S.cs (x:S):List AV:=x.enc.map .iv
theorem S.jc (x:S) (n0:Nat) (h:Hp):x.cs.map (nrm n0 h 8)=x.cs:=kr n0 h x.enc
section
variable {prog:Nat->Option al}
end
theorem B.pM (b:B):b.enc.length=16:=rfl
section
variable {prog:Nat->Option al}
end
section
variable {prog:Nat->Option al}
end
def B.fits (b:B):Prop:=∀i,i<4->(b.get i).i.length<=maxLen/\(b.get i).s.length<=maxLen
section
variable {prog:Nat->Option al}
end
section
variable {prog:Nat->Option al}
end
section
variable {prog:Nat->Option al}
end
section
variable {prog:Nat->Option al}
def j0 (x:S):Bool:=decide (x.i.length<=40)&&decide (x.s.length<=40)&&x.s.all λt=>decide (t.size<=100)
theorem DK (h:prog 27=some vN) (l:List S) (hl:l.length<=maxLen):kX prog 27 [eu l] (.bI (l.all j0)):=by
 refine kX.of h rfl rfl (en ?_);refine aU (en ?_);refine dS ?_;refine nS l.length (λi=>⟨[(0,eu l),(3,.nI i)],[],1128⟩) (λi=>(l.take i).all j0=true) rfl (by simp) ?_ ?_
 ·intro i hi hg;obtain⟨x,hx⟩:∃x,l[i]?=some x:=⟨_,List.getElem?_eq_getElem hi⟩;refine aU (eN (by simp[eu,hi];rfl) ?_);refine bL rfl (dt (aU (dS (aU (eN (s':=⟨[(0,eu l),(3,.nI i),(26,.bI (decide ((40:Int)<x.i.length)||decide ((40:Int)<x.s.length)))],[],2408⟩) (by
   cases h1:decide ((40:Int)<x.i.length)<;>simp[eu,hx,S.enc,h1]) ?_)))))
  refine bL rfl ?_;cases hb:decide ((40:Int)<x.i.length)||decide ((40:Int)<x.s.length)with
  |true=>
   refine en ?_;refine cB ?_;have:l.all j0=false:=all_false hx (by
    simp only[Bool.or_eq_true,decide_eq_true_eq]at hb;simp only[j0,Bool.and_eq_false_iff,decide_eq_false_iff_not];omega)
   rw[this];rfl
  |false=>
   simp only[Bool.or_eq_false_iff,decide_eq_false_iff_not]at hb;refine dt (en ?_);refine dS ?_;refine nS x.s.length (λk=>⟨[(0,eu l),(3,.nI i),(4,.nI k)],[],2472⟩) (λk=>(x.s.take k).all (λt=>decide (t.size<=100))=true) rfl (by simp) ?_ ?_
   ·intro k hk J6;obtain⟨t,ht⟩:∃t,x.s[k]?=some t:=⟨_,List.getElem?_eq_getElem hk⟩;refine aU (eN (by simp[eu,hx,S.enc,hk];rfl) ?_);refine bL rfl (dt (aU (dS (eN (s':=⟨[(0,eu l),(3,.nI i),(4,.nI k),(46,.bI (decide ((100:Int)<t.size)))],[],3624⟩) (by
     simp[eu,hx,S.enc,ht,r3]) ?_))))
    refine bL rfl ?_;cases wj:decide ((100:Int)<t.size)with
    |true=>
     refine en ?_;refine cB ?_;have:l.all j0=false:=all_false hx (by
      simp only[j0,Bool.and_eq_false_iff];exact .inr (all_false ht (by simp only[decide_eq_true_eq,decide_eq_false_iff_not]at wj ⊢;omega)))
     rw[this];rfl
    |false=>
     refine dt ?_;refine xb ?_;refine⟨by simp[again,bb,get,nrm,eu,gu hk (show x.s.length<=maxLen by unfold maxLen;omega)],?_⟩;rw[gR ht,J6];simp only[decide_eq_false_iff_not,Bool.true_and,decide_eq_true_eq]at wj ⊢;omega
   ·intro fV;refine aU (eN (by simp[eu,hx,S.enc];rfl) ?_);refine bL rfl (ki ?_);simp only[Ex.then,Ex.inBlock,if_true];refine xb ?_;refine⟨by simp[again,bb,get,nrm,eu,gu hi hl],?_⟩;rw[gR hx,hg];rw[List.take_length]at fV;simp only[j0,fV,Bool.and_true,Bool.true_and,Bool.and_eq_true,decide_eq_true_eq];omega
 ·intro hg;refine aU (eN (by simp[eu];rfl) ?_);refine bL rfl (ki ?_);simp only[Ex.then,Ex.inBlock,if_true];refine en ?_;refine cB ?_;rw[List.take_length]at hg;rw[hg];rfl
def Ir (b:B):Bool:=j0 b.s0&&(j0 b.s1&&(j0 b.s2&&j0 b.s3))
def je (l:List B):Bool:=decide (l.length<=20)&&l.all Ir
end
end ao
namespace ao
open Go Go.RowKit
section
variable {ν:Nat->Nat} {P:Program}
def kz (P:Program) (ν:Nat->Nat) (f:Nat) (ir:al):Prop:=∃fn c,P.funcs[ν f]?=some fn/\fn.body=some c/\(fn.name=="runtime.NumGoroutine")=false/\pW P ν fn c ir=true/\nf P ν f ir
theorem sU:j5 P ν (get []):=λf ir h=>by simp[get]at h
theorem fL {f:Nat} {ir:al} {L:List (Nat×al)} (h:kz P ν f ir) (hL:j5 P ν (get L)):j5 P ν (get ((f,ir)::L)):=by
 intro f' zj hg;simp only[get]at hg;split at hg
 ·rename_i h0;subst h0;simp only[Option.some.injEq]at hg;subst hg;exact h
 ·exact hL f' zj hg
def DL (ir:al):Bool:=match ir.cl with | none=>true | some p=>Nat.blt p.1 1000000
theorem DM {f:Nat} {ir:al} (h:DL ir=true):nf P ν f ir:=by
 unfold DL at h;unfold nf;split
 ·trivial
 ·rename_i p hp;rw[hp]at h;exact .inl h
def Ak (P:Program) (ν:Nat->Nat) (fn:Func) (ir:al):Bool:=(match fn.body with | some c=>pW P ν fn c ir | none=>false)&&!(fn.name=="runtime.NumGoroutine")
def qJ (P:Program) (ν:Nat->Nat) (fn:Func) (ir:al):Bool:=Ak P ν fn ir&&DL ir
theorem Al {f k:Nat} {ir:al} {fn:Func} (hk:P.funcs[k]?=some fn) (pe:ν f=k) (h:Ak P ν fn ir=true) (hs:nf P ν f ir):kz P ν f ir:=by
 simp only[Ak,Bool.and_eq_true,Bool.not_eq_true']at h;obtain⟨h1,h2⟩:=h;split at h1
 ·rename_i c hc;exact⟨fn,c,by rw[pe];exact hk,hc,h2,h1,hs⟩
 ·cases h1
theorem vi {f k:Nat} {ir:al} {fn:Func} (hk:P.funcs[k]?=some fn) (pe:ν f=k) (h:qJ P ν fn ir=true):kz P ν f ir:=by
 simp only[qJ,Bool.and_eq_true]at h;exact Al hk pe h.1 (DM h.2)
end
end ao
namespace aB
open Go Go.RowKit ao
section
variable {ν:Nat->Nat} {P:Program}
def start (W:World):Gh:=⟨Old W,λ_=>none,W,.nil⟩
theorem zk (W:World):Rel ν ⟨W,Old W⟩ (start W) where
 ob id o h:=by rw[show(start W).h=Tr.nil from rfl,lM]at h;cases h
 inj id bW o o' b h:=by rw[show(start W).h=Tr.nil from rfl,lM]at h;cases h
 small b h:=h
 i0 b h:=h
 i1 b h:=.inl h
 own id o b h:=by rw[show(start W).h=Tr.nil from rfl,lM]at h;cases h
 size:=Nat.le_refl _
 os:=rfl
 tape:=rfl
 output:=rfl
 cu b _:=rfl
 ty id o b h:=by rw[show(start W).h=Tr.nil from rfl,lM]at h;cases h
theorem Am (cV:P.follows .mixedOrders=true) {p1:Nat->Option ao.al} (An:ao.j5 P ν p1) {p2:Nat->Option al} (xw:j5 P ν p2) {f:Nat} {W:World} {aS:Array Value} {xs:List AV}
  (hR:RL ν (start W) aS.toList xs) (he:∃n p,cm p1 p2 n f xs .nil 1=some (.iv (.bool true),p)):Calls P (ν f) aS W λe w'=>e = .returned (.bool true)/\Below W.heap.size W w':=by
 obtain⟨n,⟨bM,dN⟩,he⟩:=he;have hs:ao.bq ν P (one p1 n):=ao.sound cV An n;obtain⟨_,bx⟩:=sound cV hs xw n f xs .nil 1 _ bM dN he;refine(bx ⟨W,Old W⟩ (start W) aS rfl (zk W) hR).mono ?_;rintro e w' ⟨v,g',rfl,rfl, -,r', -,hv⟩;refine⟨?_,⟨r'.os,r'.tape,r'.output,r'.size,λb hb=>r'.cu b hb⟩⟩;cases hv with
 |iv h=>cases h;rfl
theorem sU:j5 P ν (get ([]:List (Nat×al))):=λf ir h=>by simp[dM]at h
theorem fL {f:Nat} {ir:al} {L:List (Nat×al)} (h:kz P ν f ir) (hL:j5 P ν (get L)):j5 P ν (get ((f,ir)::L)):=by
 intro f' zj hg;simp only[bQ]at hg;split at hg
 ·rename_i h0;subst h0;simp only[Option.some.injEq]at hg;subst hg;exact h
 ·exact hL f' zj hg
def qJ (P:Program) (ν:Nat->Nat) (fn:Func) (ir:al):Bool:=(match fn.body with | some c=>pW P ν fn c ir | none=>false)&&!(fn.name=="runtime.NumGoroutine")
theorem vi {f k:Nat} {ir:al} {fn:Func} (hk:P.funcs[k]?=some fn) (pe:ν f=k) (h:qJ P ν fn ir=true):kz P ν f ir:=by
 simp only[qJ,Bool.and_eq_true,Bool.not_eq_true']at h;obtain⟨h1,h2⟩:=h;split at h1
 ·rename_i c hc;exact .inl ⟨fn,c,by rw[pe];exact hk,hc,h2,h1⟩
 ·cases h1
theorem lX (e:Nat):pb (Prim.clone e):=λ_ _ _ _ _ _ _ _ _ _ h=>h
theorem Ao:pb Prim.total:=λ_ _ _ _ _ _ _ _ _ _ h=>h
theorem zl:bX (get ([]:List (Nat×al))):=λf ir p h=>by simp[dM]at h
theorem fG {f:Nat} {ir:al} {L:List (Nat×al)} (h:∀p,ir.iT=some p->pb p) (hL:bX (get L)):bX (get ((f,ir)::L)):=by
 intro f' zj p hg hp;simp only[bQ]at hg;split at hg
 ·simp only[Option.some.injEq]at hg;subst hg;exact h p hp
 ·exact hL f' zj p hg hp
theorem xx {prog:Nat->Option al} (tie:j5 P ν prog):∀f ir p,prog f=some ir->ir.iT=some p->ko p:=λf ir p hf hp=>by
 rcases tie f ir hf with⟨fn,c, -, -, -,jA⟩|⟨p',h1, -,h2⟩
 ·simp[pW,hp]at jA
 ·rw[hp]at h1;cases h1;exact h2
end
end aB
namespace aB
open Go Go.Proofs Go.RowKit Go.Maps Go.Sort Go.Shelf
theorem vj {P:Program} {lY wk:Ren} (Lk:SlLaysZI.n10 P lY) (Ls:SlLaysZI.n6 P wk) (hs:∀m,AnyZI.SortsIn P wk Fence.wide m) (e9:∀args w,(callFunc (wk.f 9) args).run P w = .ok (.enter (wk.f 9) args) w)
  (eg:∀args w,(callFunc (lY.f 10) args).run P w = .ok (.enter (lY.f 10) args) w):my P (wk.f 6) (lY.f 10):=by
 intro W Bm b es clock ks hm hb fp pL dV hlen;have J7:Bm<W.heap.size:=by
  refine Classical.byContradiction λh=>?_
  simp[World.cell?,Array.getElem?_eq_none (Nat.le_of_not_lt h)]at hm
 have bB:es.size=ks.length:=by have:=congrArg List.length pL;simpa using this
 let R:Value->Option (DataW Unit×List MemPlace):=λ_=>some (.nil,[])
 have DN:∀x ∈ es.toList,∃n,x.key = .int .i64 n/\n ∈ ks:=λx hx=>by
  have:x.key ∈ es.toList.map (·.key):=List.mem_map.2 ⟨x,hx,rfl⟩;rw[pL]at this;obtain⟨n,hn,e⟩:=List.mem_map.1 this;exact⟨n,e.symm,hn⟩
 have FY:∀x ∈ es.toList,∀n,x.key = .int .i64 n->WideElems.rd P (lY.t 26) R x=some (.int .i64 n,.nil):=λx hx n hn=>by
  obtain⟨n',e1,e2⟩:=DN x hx;rw[hn]at e1;cases e1;have:=dV n e2;have hk:keyOf P (lY.t 26) (.int .i64 n)=some (.int .i64 n):=by
   simp[keyOf,Lk.t26,mapKey,Lit.wf,IntKind.min,IntKind.max,IntKind.signed,IntKind.bits];omega
  simp[WideElems.rd,hn,hk,R]
 have Ft:Go.WideElems.Fit P (lY.t 26) R es clock:=⟨by unfold maxLen;omega,fp,λx hx=>by obtain⟨n,e, -⟩:=DN x hx;exact⟨_,FY x hx n e⟩⟩;have zG:W.ownsMap P (lY.t 26) R b es.size (.map ((es.toList.map (WideElems.rg P (lY.t 26) R)).foldr DataW.insert [])):=⟨es,clock,hb,Ft,Nat.le_refl _,rfl⟩;have rX:(intKeys (.map ((es.toList.map (WideElems.rg P (lY.t 26) R)).foldr DataW.insert []))).Perm ks:=by
  refine((WideShapes.sorted_perm (es.toList.map (WideElems.rg P (lY.t 26) R))).map λp:Lit×DataW Unit=>Go.intOf p.1).trans (List.Perm.of_eq ?_);have h1:∀(l:List MapEntry) (q:List Int),(∀x ∈ l,x ∈ es.toList)->l.map (·.key)=q.map (Value.int .i64 ·)->(l.map (WideElems.rg P (lY.t 26) R)).map (λp:Lit×DataW Unit=>Go.intOf p.1)=q:=by
   intro l
   induction l with
   |nil=>intro q _ h;cases q with | nil=>rfl | cons a q=>simp at h
   |cons x l ih=>
    intro q hl h;cases q with
    |nil=>simp at h
    |cons a q=>
     simp only[List.map_cons,List.cons.injEq]at h ⊢;refine⟨?_,ih q (λy hy=>hl y (List.mem_cons_of_mem _ hy)) h.2⟩;rw[WideElems.rg_of (FY x (hl x (List.mem_cons_self ..)) a h.1)];rfl
  exact h1 _ _ (λ_ h=>h) pL
 have hN:Maps.size (.map ((es.toList.map (WideElems.rg P (lY.t 26) R)).foldr DataW.insert []))=es.size:=by rw[size_eq,length_sorted,List.length_map];simp
 have It:=AnyZI.keys_gives Lk Fence.wide 2 trivial rfl (by omega) Bm b es.size _ W J7 hm zG;have c:=AnyZI.sorted_in Ls Fence.wide 5 trivial trivial trivial trivial rfl (by omega) (hs _) e9 (lY.f 10) #[.pointer (some ⟨Bm,0,none⟩)] trivial eg _ _ (by rw[hN];unfold maxLen;omega) (by rw[hN];omega) W It;refine(callsIn_wide.1 c).mono ?_;rintro e w' ⟨v,ss,rfl,hS,aC,mC,fM⟩;exact⟨v,ss,_,rfl,hS.trans rX,aC,mC,fM⟩
end aB
namespace Go.Proofs
open Go.Shelf Go.RowKit Go.Lib Go.Sort Go.Maps
def Tryz.tm:Go.Shelf.Ren:=⟨fun | 7=>105 | 10=>146 | n=>n,fun | 23=>159 | 26=>3 | 3=>4 | 28=>212 | 0=>0 | 27=>211 | 33=>258 | 4=>4 | n=>n,λn=>n⟩
theorem Tryz.Fa:SlLaysZI.n7 Tryz.prog Tryz.tm:={
 mixed:=by kernel_rfl,
 f7:=⟨Tryz.f105.name,by decide,Tryz.func105.trans (congrArg some (by kernel_rfl))⟩,
 f10:=⟨Tryz.f146.name,by decide,Tryz.func146.trans (congrArg some (by kernel_rfl))⟩,
 t0:=Tryz.underlying0,
 a0:=Tryz.isAgg0,
 z0:=Tryz.sizeOf0,
 v0:=Tryz.zeroValue0,
 t4:=Tryz.underlying4,
 a4:=Tryz.isAgg4,
 z4:=Tryz.sizeOf4,
 v4:=Tryz.zeroValue4,
 t23:=Tryz.underlying159,
 a23:=Tryz.isAgg159,
 z23:=Tryz.sizeOf159,
 v23:=Tryz.zeroValue159,
 t26:=Tryz.underlying3,
 a26:=Tryz.isAgg3,
 z26:=Tryz.sizeOf3,
 v26:=Tryz.zeroValue3,
 t27:=Tryz.underlying211,
 a27:=Tryz.isAgg211,
 z27:=Tryz.sizeOf211,
 v27:=Tryz.zeroValue211,
 t28:=Tryz.underlying212,
 a28:=Tryz.isAgg212,
 z28:=Tryz.sizeOf212,
 v28:=Tryz.zeroValue212,
 t33:=Tryz.underlying258,
 a33:=Tryz.isAgg258,
 z33:=Tryz.sizeOf258,
 v33:=Tryz.zeroValue258 }
def Tryz.mN:Go.Shelf.Ren:=⟨fun | 6=>104 | 8=>145 | 9=>140 | 11=>183 | 13=>173 | 12=>172 | 23=>207 | 24=>208 | 14=>198 | 15=>199 | 16=>200 | 17=>201 | 18=>202 | 19=>203 | 20=>204 | 21=>205 | 22=>206 | 25=>227 | 26=>228 | 27=>229 | 28=>230 | 29=>231 | 30=>196 | 31=>245 | n=>n,fun | 26=>3 | 28=>212 | 24=>37 | 0=>0 | 3=>3 | 37=>283 | 48=>315 | 50=>38 | 4=>4 | 40=>309 | 39=>308 | 45=>241 | 5=>5 | 9=>9 | 51=>338 | 55=>243 | 57=>356 | 58=>46 | 33=>258 | n=>n,λn=>n⟩
theorem Tryz.BF:SlLaysZI.n6 Tryz.prog Tryz.mN:={
 mixed:=by kernel_rfl,
 f6:=⟨Tryz.f104.name,by decide,Tryz.func104.trans (congrArg some (by kernel_rfl))⟩,
 f8:=⟨Tryz.f145.name,by decide,Tryz.func145.trans (congrArg some (by kernel_rfl))⟩,
 f11:=⟨Tryz.f183.name,by decide,Tryz.func183.trans (congrArg some (by kernel_rfl))⟩,
 t0:=Tryz.underlying0,
 a0:=Tryz.isAgg0,
 z0:=Tryz.sizeOf0,
 v0:=Tryz.zeroValue0,
 t24:=Tryz.underlying37,
 a24:=Tryz.isAgg37,
 z24:=Tryz.sizeOf37,
 v24:=Tryz.zeroValue37,
 t26:=Tryz.underlying3,
 a26:=Tryz.isAgg3,
 z26:=Tryz.sizeOf3,
 v26:=Tryz.zeroValue3,
 t28:=Tryz.underlying212,
 a28:=Tryz.isAgg212,
 z28:=Tryz.sizeOf212,
 v28:=Tryz.zeroValue212,
 i26:=by kernel_rfl }
def Tryz.zm:Go.Shelf.Ren:=⟨fun | 5=>140 | 8=>173 | 7=>172 | 19=>207 | 20=>208 | 10=>198 | 11=>199 | 12=>200 | 13=>201 | 14=>202 | 15=>203 | 16=>204 | 17=>205 | 18=>206 | 30=>227 | 31=>228 | 32=>229 | 33=>230 | 34=>231 | 35=>196 | 40=>245 | n=>n,fun | 23=>37 | 25=>3 | 3=>3 | 32=>283 | 22=>37 | 0=>0 | 44=>315 | 46=>38 | 4=>4 | 36=>309 | 35=>308 | 41=>241 | 5=>5 | 9=>9 | 53=>338 | 57=>243 | 63=>356 | 64=>46 | n=>n,λn=>n⟩
theorem Tryz.Be:SlLaysM.n5 Tryz.prog Tryz.zm:={
 mixed:=by kernel_rfl,
 f5:=⟨Tryz.f140.name,by decide,Tryz.func140.trans (congrArg some (by kernel_rfl))⟩,
 f7:=⟨Tryz.f172.name,by decide,Tryz.func172.trans (congrArg some (by kernel_rfl))⟩,
 f8:=Tryz.func173.trans (congrArg some (by kernel_rfl)),
 f10:=⟨Tryz.f198.name,by decide,Tryz.func198.trans (congrArg some (by kernel_rfl))⟩,
 f11:=⟨Tryz.f199.name,by decide,Tryz.func199.trans (congrArg some (by kernel_rfl))⟩,
 f12:=⟨Tryz.f200.name,by decide,Tryz.func200.trans (congrArg some (by kernel_rfl))⟩,
 f13:=⟨Tryz.f201.name,by decide,Tryz.func201.trans (congrArg some (by kernel_rfl))⟩,
 f14:=⟨Tryz.f202.name,by decide,Tryz.func202.trans (congrArg some (by kernel_rfl))⟩,
 f15:=⟨Tryz.f203.name,by decide,Tryz.func203.trans (congrArg some (by kernel_rfl))⟩,
 f16:=⟨Tryz.f204.name,by decide,Tryz.func204.trans (congrArg some (by kernel_rfl))⟩,
 f17:=⟨Tryz.f205.name,by decide,Tryz.func205.trans (congrArg some (by kernel_rfl))⟩,
 f18:=⟨Tryz.f206.name,by decide,Tryz.func206.trans (congrArg some (by kernel_rfl))⟩,
 f19:=Tryz.func207.trans (congrArg some (by kernel_rfl)),
 f20:=Tryz.func208.trans (congrArg some (by kernel_rfl)),
 f30:=⟨Tryz.f227.name,by decide,Tryz.func227.trans (congrArg some (by kernel_rfl))⟩,
 f31:=Tryz.func228.trans (congrArg some (by kernel_rfl)),
 f32:=Tryz.func229.trans (congrArg some (by kernel_rfl)),
 f33:=⟨Tryz.f230.name,by decide,Tryz.func230.trans (congrArg some (by kernel_rfl))⟩,
 f34:=⟨Tryz.f231.name,by decide,Tryz.func231.trans (congrArg some (by kernel_rfl))⟩,
 f35:=⟨Tryz.f196.name,by decide,Tryz.func196.trans (congrArg some (by kernel_rfl))⟩,
 f40:=⟨Tryz.f245.name,by decide,Tryz.func245.trans (congrArg some (by kernel_rfl))⟩,
 t0:=Tryz.underlying0,
 a0:=Tryz.isAgg0,
 z0:=Tryz.sizeOf0,
 v0:=Tryz.zeroValue0,
 t3:=Tryz.underlying3,
 a3:=Tryz.isAgg3,
 z3:=Tryz.sizeOf3,
 v3:=Tryz.zeroValue3,
 t4:=Tryz.underlying4,
 a4:=Tryz.isAgg4,
 z4:=Tryz.sizeOf4,
 v4:=Tryz.zeroValue4,
 t5:=Tryz.underlying5,
 a5:=Tryz.isAgg5,
 z5:=Tryz.sizeOf5,
 v5:=Tryz.zeroValue5,
 t9:=Tryz.underlying9,
 a9:=Tryz.isAgg9,
 z9:=Tryz.sizeOf9,
 v9:=Tryz.zeroValue9,
 t22:=Tryz.underlying37,
 a22:=Tryz.isAgg37,
 z22:=Tryz.sizeOf37,
 v22:=Tryz.zeroValue37,
 t23:=Tryz.underlying37,
 a23:=Tryz.isAgg37,
 z23:=Tryz.sizeOf37,
 v23:=Tryz.zeroValue37,
 t25:=Tryz.underlying3,
 a25:=Tryz.isAgg3,
 z25:=Tryz.sizeOf3,
 v25:=Tryz.zeroValue3,
 t32:=Tryz.underlying283,
 a32:=Tryz.isAgg283,
 z32:=Tryz.sizeOf283,
 v32:=Tryz.zeroValue283,
 t35:=Tryz.underlying308,
 a35:=Tryz.isAgg308,
 z35:=Tryz.sizeOf308,
 v35:=Tryz.zeroValue308,
 t36:=Tryz.underlying309,
 a36:=Tryz.isAgg309,
 z36:=Tryz.sizeOf309,
 v36:=Tryz.zeroValue309,
 t41:=Tryz.underlying241,
 a41:=Tryz.isAgg241,
 z41:=Tryz.sizeOf241,
 v41:=Tryz.zeroValue241,
 t44:=Tryz.underlying315,
 a44:=Tryz.isAgg315,
 z44:=Tryz.sizeOf315,
 v44:=Tryz.zeroValue315,
 t46:=Tryz.underlying38,
 a46:=Tryz.isAgg38,
 z46:=Tryz.sizeOf38,
 v46:=Tryz.zeroValue38,
 t53:=Tryz.underlying338,
 a53:=Tryz.isAgg338,
 z53:=Tryz.sizeOf338,
 v53:=Tryz.zeroValue338,
 t57:=Tryz.underlying243,
 a57:=Tryz.isAgg243,
 z57:=Tryz.sizeOf243,
 v57:=Tryz.zeroValue243,
 t63:=Tryz.underlying356,
 a63:=Tryz.isAgg356,
 z63:=Tryz.sizeOf356,
 v63:=Tryz.zeroValue356,
 t64:=Tryz.underlying46,
 a64:=Tryz.isAgg46,
 z64:=Tryz.sizeOf46,
 v64:=Tryz.zeroValue46 }
theorem Tryz.DO (m:Nat):AnyZI.SortsIn Tryz.prog Tryz.mN Fence.wide m:=
 ⟨λyn off cap ss W hH dh bB=>callsIn_wide.2 (AnyM.slices_Sort_int Tryz.Be yn off cap ss W hH dh bB),λp cap W=>callsIn_wide.2 (AnyM.slices_Sort_int_none Tryz.Be p cap W)⟩
theorem Tryz.vl:aB.my Tryz.prog 104 146:=
 aB.vj (lY:=Tryz.tm) (wk:=Tryz.mN) { Tryz.Fa with } Tryz.BF Tryz.DO (enters_of Tryz.func140 (by kernel_rfl) rfl) (enters_of Tryz.func146 (by kernel_rfl) rfl)
end Go.Proofs
namespace aB
open Go Go.Proofs
namespace ej
def J8:List Nat:=[0,0,0,0,0,0,0,211,0,180,233,0,0,179,0,0,234,163,235,131,0,210,212,197,138,0,93,60,0,0,76,250,192,193,0,0,236,133,166,225,226,0,95,0,0,98,99,92,0,0,167,168,169,216,79,243,244,134,137,129,130,195,173,196,239,252,164,165,217,207,208,260,266,194,224,223,222,221,220,219,218,268,267,265,264,263,262,261,280,0,0,0,0,0,0,0,0,0,0,0,0,0,0,0,0,0,0,0,0,0,0,0,0,0,0,135,158,185,191,116,157,96,0,0,0,0,170,188,215,94,132,37,56,57,40,72,0,48,66,0,154,214,0,148,156,139,0,81,238,0,174,187,171,0,0,0,0,0,0,0,0,0,0,0,0,0,0,0,0,42,43,19,0,0,0,0,0,0,0,0,0,0,0,0,61,75,74,97,136,91,90,127,128,0,0,0,0,0,0,0,0,5,21,20,44,0,0,0,0,0,0,0,0,0,0,0,28,27,52,35,0,58,39,0,55,38,0,0,0,0,0,65,83,82,62,51,0,0,68,86,123,124,106,119,121,120,122,118,117,159,149,147,161,162,160,190,189,64,84,115,155,80,78,111,108,112,113,109,107,110,151,152,150,153,186,0,0,0,0,0,0,0,0,0,8,9,10,11,12,13,14,15,16,7,6,4,36,22,23,24,25,26,46,47,32,63,53,77,105,104,103,102,101,100,142,141,140,172,206,205,204,203,202,201,200,199,198,227,231,230,245,229,228,146,143,144,177,175,176,209,232,249,248,247,246,256,255,274,273,284,289,298,305,317,316,315,314,328,327,330,329,283,272,259,257,254,253,271,270,282,281,288,269,287,286,300,313,302,299,310,258,276,275,182,181,213,237,178,50,69,87,89,88,67,85,71,125,126,45,49,30,34,33,54,31,29,18,17,41,59,73,291,292,293,3,295,296,297,326,325,304,294,303,0,0,0,0,0,0]
def nu (n:Nat):Nat:=if n=pG then 219 else if n=lT then 5 else J8.getD n 0
def lZ:List (Nat×ao.al):=[(13,ao.IE),(17,ao.IF),(19,ao.IG),(24,ao.IH),(26,ao.II),(27,ao.vN),(30,ao.IJ),(32,ao.IK),(42,ao.IL),(45,ao.IM),(46,ao.IN),(47,ao.IP),(57,ao.IQ),(58,ao.IS),(59,ao.IT),(62,ao.IU),(66,ao.IW),(70,ao.IX),(116,ao.F7),(117,ao.F8),(118,ao.F9),(119,ao.Ga),(120,ao.Gb),(127,ao.Gc),(128,ao.Gd),(131,ao.Ge),(132,ao.Gf),(133,ao.Gg),(134,ao.Gi),(135,ao.Gj),(137,ao.Gk),(138,ao.Gl),(141,ao.Gm),(144,ao.Gn),(148,ao.Gp),(151,ao.Gq),(169,ao.tI),(170,ao.tJ),(171,ao.Gr),(201,ao.zD),(202,ao.wS),(203,ao.wR),(204,ao.tK)]
def kU:List (Nat×al):=[(54,JC),(140,Ia),(143,Ib),(147,Ie),(150,Ig),(184,HA),(185,HB),(186,HD),(189,HF),(190,HE),(191,HG),(192,HH),(216,H7),(219,He),(221,HU),(222,HS),(224,Dw),(225,H9),(234,Hl),(235,Ha),(238,Hb),(239,HM),(240,GY),(241,G0),(242,HP),(243,HO),(244,HX),(245,HQ),(247,GX),(248,Hx),(249,G1),(251,HN),(252,GZ),(254,HY),(255,H4),(256,HZ),(257,Hc),(258,Hm),(259,Hn),(260,Ho),(261,Hu),(262,HL),(263,Hq),(264,HR),(265,Hy),(266,HW),(267,Hs),(268,Hr),(269,HV),(270,Hw),(272,Ht),(273,H3),(274,H0),(284,Dj),(285,Di),(286,Dr),(287,Dh),(288,Dl),(289,Ds),(290,Dq),(291,Dm),(292,Dn),(293,Dp),(294,Dk),(295,nR),(297,Hj),(299,Hh),(300,Hi),(301,Hg),(302,Hk),(304,Du),(305,GV),(306,Dg),(307,G2),(308,H5),(309,Ii),(310,G8),(311,G7),(312,G9),(313,G4),(315,Ic),(316,Ih),(317,Ik),(326,Ij),(334,G5),(335,G6),(387,G3),(388,Hf),(389,GR),(391,GU),(392,HI),(393,GS),(394,GW),(395,H8),(396,HJ),(398,GQ),(399,GP),(400,Dt),(401,De),(402,Dd),(403,Dv),(404,Df),(405,H6),(406,HC),(407,HT),(408,Hv),(409,HK),(410,Hz),(414,xo)]
theorem mixed:Tryz.prog.follows .mixedOrders=true:=Tryz.checked.mixed
open Tryz
theorem z1 {f k:Nat} {ir:ao.al} {fn:Func} {L:List (Nat×ao.al)} (hk:Tryz.prog.funcs[k]?=some fn) (h1:nu f=k) (h2:ao.qJ Tryz.prog nu fn ir=true) (t:ao.j5 Tryz.prog nu (ao.get L)):ao.j5 Tryz.prog nu (ao.get ((f,ir)::L)):=ao.fL (ao.vi hk h1 h2) t
theorem z2 {f k:Nat} {ir:al} {fn:Func} {L:List (Nat×al)} (hk:Tryz.prog.funcs[k]?=some fn) (h1:nu f=k) (h2:qJ Tryz.prog nu fn ir=true) (t:j5 Tryz.prog nu (aB.get L)):j5 Tryz.prog nu (aB.get ((f,ir)::L)):=fL (vi hk h1 h2) t
theorem zp {f:Nat} {ir:al} {L:List (Nat×al)} (h:ir.iT=none) (t:bX (aB.get L)):bX (aB.get ((f,ir)::L)):=fG (λp e=>by rw[h]at e;cases e) t
theorem An:ao.j5 Tryz.prog nu (ao.get lZ):=by
 refine z1 func179 ?_ ?_<|z1 func163 ?_ ?_<|z1 func131 ?_ ?_<|z1 func138 ?_ ?_<|z1 func93 ?_ ?_<|z1 func60 ?_ ?_<|z1 func76 ?_ ?_<|z1 func192 ?_ ?_<|z1 func95 ?_ ?_<|z1 func98 ?_ ?_<|z1 func99 ?_ ?_<|z1 func92 ?_ ?_<|z1 func134 ?_ ?_<|z1 func137 ?_ ?_<|z1 func129 ?_ ?_<|z1 func173 ?_ ?_<|z1 func164 ?_ ?_<|z1 func208 ?_ ?_<|z1 func158 ?_ ?_<|z1 func185 ?_ ?_<|z1 func191 ?_ ?_<|z1 func116 ?_ ?_<|z1 func157 ?_ ?_<|z1 func188 ?_ ?_<|z1 func215 ?_ ?_<|z1 func37 ?_ ?_<|z1 func56 ?_ ?_<|z1 func57 ?_ ?_<|z1 func40 ?_ ?_<|z1 func72 ?_ ?_<|z1 func48 ?_ ?_<|z1 func66 ?_ ?_<|z1 func214 ?_ ?_<|z1 func156 ?_ ?_<|z1 func238 ?_ ?_<|z1 func187 ?_ ?_<|z1 func42 ?_ ?_<|z1 func43 ?_ ?_<|z1 func19 ?_ ?_<|z1 func5 ?_ ?_<|z1 func21 ?_ ?_<|z1 func20 ?_ ?_<|z1 func44 ?_ ?_<|ao.sU
 all_goals kernel_rfl
theorem xw:j5 Tryz.prog nu (aB.get kU):=by
 refine fL (kQ mixed Tryz.func79 ?_ rfl ?_)<|z2 func154 ?_ ?_<|z2 func148 ?_ ?_<|z2 func81 ?_ ?_<|z2 func174 ?_ ?_<|z2 func61 ?_ ?_<|z2 func75 ?_ ?_<|z2 func74 ?_ ?_<|z2 func91 ?_ ?_<|z2 func90 ?_ ?_<|z2 func127 ?_ ?_<|z2 func128 ?_ ?_<|fL (kQ mixed Tryz.func28 ?_ rfl ?_)<|fL (zf mixed Tryz.func35 ?_ rfl ?_)<|z2 func58 ?_ ?_<|z2 func39 ?_ ?_<|z2 func55 ?_ ?_<|fL (kQ mixed Tryz.func38 ?_ rfl ?_)<|z2 func62 ?_ ?_<|z2 func51 ?_ ?_<|z2 func68 ?_ ?_<|z2 func86 ?_ ?_<|z2 func123 ?_ ?_<|z2 func124 ?_ ?_<|z2 func106 ?_ ?_<|z2 func119 ?_ ?_<|z2 func121 ?_ ?_<|z2 func120 ?_ ?_<|z2 func118 ?_ ?_<|z2 func117 ?_ ?_<|z2 func159 ?_ ?_<|z2 func147 ?_ ?_<|z2 func161 ?_ ?_<|z2 func160 ?_ ?_<|z2 func190 ?_ ?_<|z2 func189 ?_ ?_<|z2 func64 ?_ ?_<|z2 func84 ?_ ?_<|z2 func115 ?_ ?_<|z2 func155 ?_ ?_<|z2 func80 ?_ ?_<|z2 func78 ?_ ?_<|z2 func111 ?_ ?_<|z2 func108 ?_ ?_<|z2 func112 ?_ ?_<|z2 func113 ?_ ?_<|z2 func109 ?_ ?_<|z2 func107 ?_ ?_<|z2 func110 ?_ ?_<|z2 func151 ?_ ?_<|z2 func150 ?_ ?_<|z2 func153 ?_ ?_<|z2 func186 ?_ ?_<|z2 func8 ?_ ?_<|z2 func9 ?_ ?_<|z2 func10 ?_ ?_<|z2 func11 ?_ ?_<|z2 func12 ?_ ?_<|z2 func13 ?_ ?_<|z2 func14 ?_ ?_<|z2 func15 ?_ ?_<|z2 func16 ?_ ?_<|z2 func7 ?_ ?_<|z2 func6 ?_ ?_<|z2 func4 ?_ ?_<|z2 func22 ?_ ?_<|z2 func24 ?_ ?_<|z2 func25 ?_ ?_<|z2 func26 ?_ ?_<|z2 func46 ?_ ?_<|z2 func32 ?_ ?_<|z2 func63 ?_ ?_<|z2 func53 ?_ ?_<|z2 func77 ?_ ?_<|z2 func105 ?_ ?_<|fL (xu (kq:=146) Tryz.func104 ?_ ?_ rfl ?_ Tryz.vl)<|z2 func103 ?_ ?_<|z2 func102 ?_ ?_<|z2 func101 ?_ ?_<|z2 func100 ?_ ?_<|z2 func141 ?_ ?_<|z2 func140 ?_ ?_<|z2 func172 ?_ ?_<|z2 func198 ?_ ?_<|z2 func143 ?_ ?_<|z2 func144 ?_ ?_<|z2 func178 ?_ ?_<|z2 func50 ?_ ?_<|z2 func69 ?_ ?_<|z2 func89 ?_ ?_<|z2 func88 ?_ ?_<|z2 func67 ?_ ?_<|z2 func85 ?_ ?_<|fL (kQ mixed Tryz.func71 ?_ rfl ?_)<|z2 func125 ?_ ?_<|z2 func45 ?_ ?_<|z2 func49 ?_ ?_<|z2 func30 ?_ ?_<|z2 func34 ?_ ?_<|z2 func33 ?_ ?_<|z2 func54 ?_ ?_<|z2 func31 ?_ ?_<|fL (kQ mixed Tryz.func29 ?_ rfl ?_)<|z2 func18 ?_ ?_<|z2 func17 ?_ ?_<|z2 func41 ?_ ?_<|z2 func59 ?_ ?_<|z2 func73 ?_ ?_<|z2 func3 ?_ ?_<|sU
 all_goals kernel_rfl
theorem J9:bX (aB.get kU):=
 fG (λp h=>by cases h;exact lX 1)<|zp rfl<|zp rfl<|zp rfl<|zp rfl<|zp rfl<|zp rfl<|zp rfl<|zp rfl<|zp rfl<|zp rfl<|zp rfl<|fG (λp h=>by cases h;exact lX 3)<|fG (λp h=>by cases h;exact Ao)<|zp rfl<|zp rfl<|zp rfl<|fG (λp h=>by cases h;exact lX 1)<|zp rfl<|zp rfl<|zp rfl<|zp rfl<|zp rfl<|zp rfl<|zp rfl<|zp rfl<|zp rfl<|zp rfl<|zp rfl<|zp rfl<|zp rfl<|zp rfl<|zp rfl<|zp rfl<|zp rfl<|zp rfl<|zp rfl<|zp rfl<|zp rfl<|zp rfl<|zp rfl<|zp rfl<|zp rfl<|zp rfl<|zp rfl<|zp rfl<|zp rfl<|zp rfl<|zp rfl<|zp rfl<|zp rfl<|zp rfl<|zp rfl<|zp rfl<|zp rfl<|zp rfl<|zp rfl<|zp rfl<|zp rfl<|zp rfl<|zp rfl<|zp rfl<|zp rfl<|zp rfl<|zp rfl<|zp rfl<|zp rfl<|zp rfl<|zp rfl<|zp rfl<|zp rfl<|zp rfl<|zp rfl<|zp rfl<|zp rfl<|fG (λp h=>by cases h;exact zi 333)<|zp rfl<|zp rfl<|zp rfl<|zp rfl<|zp rfl<|zp rfl<|zp rfl<|zp rfl<|zp rfl<|zp rfl<|zp rfl<|zp rfl<|zp rfl<|zp rfl<|zp rfl<|zp rfl<|zp rfl<|fG (λp h=>by cases h;exact lX 3)<|zp rfl<|zp rfl<|zp rfl<|zp rfl<|zp rfl<|zp rfl<|zp rfl<|zp rfl<|fG (λp h=>by cases h;exact lX 4)<|zp rfl<|zp rfl<|zp rfl<|zp rfl<|zp rfl<|zp rfl<|zl
theorem Bf (n:Nat):eO (cm (ao.get lZ) (aB.get kU) n):=rL (xx xw) n
end ej
end aB
namespace ao
open Go
def B.put (b:B) (i:Nat) (x:S):B:=
 match i with
 |0=>⟨x,b.s1,b.s2,b.s3⟩
 |1=>⟨b.s0,x,b.s2,b.s3⟩
 |2=>⟨b.s0,b.s1,x,b.s3⟩
 |_=>⟨b.s0,b.s1,b.s2,x⟩
section
variable {prog:Nat->Option al}
end
end ao
namespace ao
open Go
attribute [local simp] aO Option.map_some aX step bG bk aW M.aJ M.run M.ok M.fresh M.write M.look M.lift bh ao.set ev ao.get bb bin ew hY mk params bU load cP eD fk gX eE eF idx len valid hU bound store cn ep un eqs jv bC bu M.bz fS cC ed c9 meets gv gM callee ek gL fz flat jf jE l6 Option.bind_some fl M.bind
section
variable {prog:Nat->Option al}
end
section
variable {prog:Nat->Option al}
end
section
variable {prog:Nat->Option al}
end
section
variable {prog:Nat->Option al}
end
section
variable {prog:Nat->Option al}
end
section
variable {α:Type} (lt:α->α->Bool)
end
section
variable {prog:Nat->Option al}
end
section
variable {prog:Nat->Option al}
end
end ao
namespace ao

end ao
namespace ao
open Go
attribute [local simp] aO Option.map_some aX step bG bk aW M.aJ M.run M.ok M.fresh M.write M.look M.lift bh ao.set ev ao.get bb bin ew hY mk params bU load cP eD fk gX eE eF idx len valid hU bound store cn ep un eqs jv bC bu M.bz fS cC ed c9 meets gv gM callee ek gL fz flat jf jE l6 Option.bind_some fl M.bind
section
variable {prog:Nat->Option al}
end
section
variable {prog:Nat->Option al}
end
section
variable {prog:Nat->Option al}
end
section
variable {prog:Nat->Option al}
end
section
variable {prog:Nat->Option al}
end
section
variable {prog:Nat->Option al}
end
section
variable {prog:Nat->Option al}
end
def entry (i:Int) (f:List B) (s:Int):List IV:=[.int .i64 i,.sl 16 (f.map B.enc),.int .u64 s]
section
variable {prog:Nat->Option al}
end
end ao
namespace ao
open Go
def gj (n:Int):Prop:=-9223372036854775808<=n/\n<=9223372036854775807
structure S.ok (s:S):Prop where
 li:s.i.length<=maxLen
 ls:s.s.length<=maxLen
 ri:∀p ∈ s.i,gj p.1/\gj p.2
 rs:∀t ∈ s.s,t.size<=maxLen
def B.ok (b:B):Prop:=b.s0.ok/\b.s1.ok/\b.s2.ok/\b.s3.ok
theorem B.ok.at {b:B} (h:b.ok) {i:Nat} (hi:i<4):(b.get i).ok:=by
 match i,hi with
 |0,_=>exact h.1
 |1,_=>exact h.2.1
 |2,_=>exact h.2.2.1
 |3,_=>exact h.2.2.2
theorem B.ok.fits {b:B} (h:b.ok):b.fits:=λ_ hi=>⟨(h.at hi).li,(h.at hi).ls⟩
theorem nT {α:Type} (f:α->List IV) (P:α->Prop):∀rows:List (List IV),(∀r ∈ rows,∃a,r=f a/\P a)->∃l:List α,rows=l.map f/\∀a ∈ l,P a
 |[],_=>⟨[],rfl,λa h=>by cases h⟩
 |r::rows,h=>by
  obtain⟨a,rfl,ha⟩:=h r (List.mem_cons_self ..);obtain⟨l,rfl,hl⟩:=nT f P rows λr' h'=>h r' (List.mem_cons_of_mem _ h')
  exact⟨a::l,rfl,λb hb=>(List.mem_cons.1 hb).elim (λe=>e▸ha) (hl b)⟩
theorem eY.split:∀{ss ts:List Sh} {xs:List IV},eY (ss++ts) xs->∃a b,xs=a++b/\eY ss a/\eY ts b
 |[],_,xs,h=>⟨[],xs,rfl,trivial,h⟩
 |_::_,_,[],h=>h.elim
 |_::_,_,x::xs,h=>by
  obtain⟨a,b,rfl,ha,hb⟩:=eY.split h.2;exact⟨x::a,b,rfl,⟨h.1,ha⟩,hb⟩
theorem l0 {n:Int} (h:(Lit.int .i64 n).wf=true):gj n:=by
 simp only[Lit.wf,Bool.and_eq_true,decide_eq_true_eq]at h;rw[show IntKind.i64.min = -9223372036854775808 by decide,show IntKind.i64.max=9223372036854775807 by decide]at h;exact h
theorem eY.one {a:Sh} {ss:List Sh}:∀{xs:List IV},eY (a::ss) xs->∃x r,xs=x::r/\Fits a x/\eY ss r
 |[],h=>h.elim
 |x::r,h=>⟨x,r,rfl,h.1,h.2⟩
theorem eY.none:∀{xs:List IV},eY [] xs->xs=[]
 |[],_=>rfl
 |_::_,h=>h.elim
end ao
namespace ao
open Go
attribute [local simp] aO Option.map_some aX step bG bk aW M.aJ M.run M.ok M.fresh M.write M.look M.lift bh ao.set ev ao.get bb bin ew hY mk params bU load cP eD fk gX eE eF idx len valid hU bound store cn ep un eqs jv bC bu M.bz fS cC ed c9 meets gv gM callee ek gL fz flat jf jE l6 Option.bind_some fl M.bind
theorem vq {n0:Nat} (h:1000<n0) (cs:List AV):nrm n0 [(1000,.cells cs)] 8 (.ref 1000 0 0 0) = .ref 1000 0 0 0:=by simp[nrm,ao.get,h]
inductive Xp where
 |mk (k a:Int) (s:S) (sub:List Xp)
mutual
def Xp.enc:Xp->List IV
 |.mk k a s sub=>[.int .i64 k,.int .i64 a,.bool s.a,.sl 2 (s.i.map tl),.bool s.c,.sl 1 (s.s.map r3),.sl 7 (Xp.xy sub)]
def Xp.xy:List Xp->List (List IV)
 |[]=>[]
 |x::l=>x.enc::Xp.xy l
end
theorem Xp.qK:∀l:List Xp,Xp.xy l=l.map Xp.enc
 |[]=>rfl
 |x::l=>by simp[Xp.xy,Xp.qK l]
def Xp.sub:Xp->List Xp
 |.mk _ _ _ l=>l
def Xp.set:Xp->S
 |.mk _ _ s _=>s
def Xp.cs (x:Xp):List AV:=x.enc.map .iv
def Xp.av (x:Xp):AV:=.agg x.cs
theorem Xp.dT (x:Xp):x.enc.all notNil=true:=by cases x;simp[Xp.enc,notNil]
theorem Xp.iA (x:Xp) (w:Bool):M.aJ (gL w) x.cs = .ret x.cs:=jD w x.enc x.dT
theorem Xp.gi (x:Xp) (s:Nat):ep s x.cs = .ret x.cs:=iN x.enc s x.dT
theorem Xp.jb (x:Xp):x.cs.length=7:=by cases x;rfl
theorem Xp.DP (x:Xp):x.cs.take 7=x.cs:=by cases x;rfl
theorem Xp.l4 (x:Xp):(x.cs.drop 6).take 1=[.iv (.sl 7 (x.sub.map Xp.enc))]:=by cases x;simp[Xp.cs,Xp.enc,Xp.sub,Xp.qK]
theorem Xp.DQ (x:Xp):(x.cs.drop 2).take 4=[.bI x.set.a,.iv (.sl 2 (x.set.i.map tl)),.bI x.set.c,.iv (.sl 1 (x.set.s.map r3))]:=by cases x;rfl
theorem Xp.jc (x:Xp) (n0:Nat) (h:Hp):x.cs.map (nrm n0 h 8)=x.cs:=kr n0 h x.enc
theorem Xp.pj (x:Xp):(x.enc.map AV.iv).take 7=x.cs:=by cases x;rfl
theorem Xp.sV (x:Xp):x.enc.length=7:=by cases x;rfl
inductive Xp.ok:Xp->Prop
 |mk {k a:Int} {s:S} {sub:List Xp} (hk:gj k) (ha:gj a) (hs:s.ok) (hl:sub.length<=maxLen) (h:∀x ∈ sub,Xp.ok x):Xp.ok (.mk k a s sub)
mutual
def Xp.deep:Int->Xp->Int
 |d,.mk _ _ _ sub=>if d > 20 then 20 else if 20<Xp.eZ (d+1) 100 sub 0+1 then 20 else Xp.eZ (d+1) 100 sub 0+1
def Xp.eZ:Int->Nat->List Xp->Int->Int
 |_,_,[],n=>n
 |_,0,_::_,n=>n
 |d,k+1,x::l,n=>Xp.eZ d k l (if Xp.deep d x > n then Xp.deep d x else n)
end
mutual
theorem Xp.wm:∀(x:Xp) (d:Int),1<=x.deep d/\x.deep d<=20
 |.mk _ _ _ sub,d=>by
  unfold Xp.deep;split
  ·omega
  ·have:=Xp.qM sub (d+1) 100 0 (by omega) (by omega);split<;>omega
theorem Xp.qM:∀(l:List Xp) (d:Int) (k:Nat) (n:Int),0<=n->n<=20->0<=Xp.eZ d k l n/\Xp.eZ d k l n<=20
 |[],d,k,n,h,h'=>by unfold Xp.eZ;omega
 |x::l,d,0,n,h,h'=>by unfold Xp.eZ;omega
 |x::l,d,k+1,n,h,h'=>by
  have h1:=Xp.wm x d;unfold Xp.eZ;split
  ·exact Xp.qM l d k _ (by omega) (by omega)
  ·exact Xp.qM l d k _ (by omega) (by omega)
end
mutual
def Xp.eu:Xp->Bool
 |.mk _ _ s sub=>j0 s&&Xp.r4 sub
def Xp.r4:List Xp->Bool
 |[]=>true
 |x::l=>x.eu&&Xp.r4 l
end
theorem Xp.tn:∀l:List Xp,Xp.r4 l=l.all Xp.eu
 |[]=>by unfold Xp.r4;rfl
 |x::l=>by unfold Xp.r4;simp[Xp.tn l]
mutual
def Xp.count:Int->Xp->Int
 |d,.mk _ _ _ sub=>if d > 20 then 100 else if 100<Xp.counts (d+1) sub 1 then 100 else Xp.counts (d+1) sub 1
def Xp.counts:Int->List Xp->Int->Int
 |_,[],n=>n
 |d,x::l,n=>if n<100 then Xp.counts d l (n+Xp.count d x) else n
end
mutual
theorem Xp.vr:∀(x:Xp) (d:Int),1<=x.count d/\x.count d<=100
 |.mk _ _ _ sub,d=>by
  unfold Xp.count;split
  ·omega
  ·have:=Xp.tq sub (d+1) 1 (by omega);split<;>omega
theorem Xp.tq:∀(l:List Xp) (d n:Int),1<=n->n<=Xp.counts d l n
 |[],d,n,_=>by unfold Xp.counts;omega
 |x::l,d,n,hn=>by
  have h1:=Xp.vr x d;unfold Xp.counts;split
  ·have:=Xp.tq l d (n+x.count d) (by omega);omega
  ·omega
end
section
variable {prog:Nat->Option al}
theorem Xp.vJ {d n:Int} (h:¬n<100):∀l:List Xp,Xp.counts d l n=n
 |[]=>by unfold Xp.counts;rfl
 |x::l=>by unfold Xp.counts;rw[if_neg h]
theorem BG (h:prog 169=some tI) {x:Xp} (hx:x.ok):∀d:Int,0<=d->d<=21->kX prog 169 [x.av,.nI d] (.nI (x.count d)):=by
 induction hx with
 |@mk k a s sub _ _ _ hl _ ih=>
  intro d Ka hd;generalize hX:Xp.mk k a s sub=X;have eI:X.sub=sub:=by rw[<-hX];rfl
  refine kX.of h rfl rfl (eN (by simp[Xp.av,Xp.gi];rfl) ?_);refine en ?_;refine aU (eN (by simp;rfl) ?_);by_cases ld:20<d
  ·refine bL (t:=true) (by simp[ev,ao.get,ld]) ?_;simp only[if_true];refine en ?_;refine cB ?_;have:X.count d=100:=by rw[<-hX];unfold Xp.count;rw[if_pos ld]
   rw[this];rfl
  ·refine bL (t:=false) (by simp[ev,ao.get,ld]) ?_;simp only[Bool.false_eq_true,if_false];refine dt (aU (en ?_));refine dS ?_;have Ap:X.count d=if 100<Xp.counts (d+1) sub 1 then 100 else Xp.counts (d+1) sub 1:=by rw[<-hX];unfold Xp.count;rw[if_neg ld]
   refine pD (λm s1=>∃(i:Nat) (n:Int),i+m=sub.length/\1<=n/\n<200/\Xp.counts (d+1) (sub.drop i) n=Xp.counts (d+1) sub 1/\
    s1=⟨[(1,.nI d),(2,.ref 1000 0 0 0),(5,.nI n),(6,.nI i)],[(1000,.cells X.cs)],1384⟩) (m:=sub.length) ⟨0,1,by omega,by omega,by omega,rfl,rfl⟩ ?_
   rintro m s1 ⟨i,n,Kb,yA,yB,hc,rfl⟩;refine aU (aU ?_);refine bH (K:=0) (s':=⟨[(1,.nI d),(2,.ref 1000 0 0 0),(5,.nI n),(6,.nI i),(17,.bI (decide (i<sub.length)&&decide (n<100)))],[(1000,.cells X.cs)],1960⟩) (λn' _=>by
    have aT:decide ((i:Int)<(sub.length:Int))=decide (i<sub.length):=decide_eq_decide.2 (by omega);cases hb:decide (i<sub.length)<;>simp[X.l4,eI,hb]) ?_
   by_cases l5:i<sub.length/\n<100
   ·refine bL (t:=true) (by simp[ev,ao.get,l5.1,l5.2]) ?_;simp only[if_true];refine dt (aU (dS ?_));have hx:sub[i]?=some sub[i]:=List.getElem?_eq_getElem l5.1;obtain⟨K,hK⟩:=ih sub[i] (List.getElem_mem _) (d+1) (by omega) (by omega);have dV:=Xp.vr sub[i] (d+1);have hw:IntKind.i64.wrap (d+1)=d+1:=IntWalk.i64_in _ (by omega);have wi:IntKind.i64.wrap (n+sub[i].count (d+1))=n+sub[i].count (d+1):=IntWalk.i64_in _ (by omega);refine bH (K:=K) (λn' cZ=>by
     have bJ:=hK n' cZ;simp only[Xp.av]at bJ;simp[X.l4,eI,hx,Xp.pj,Xp.sV,Xp.iA,hw,wi,bJ];rfl) ?_
    refine nF (by simp[gu l5.1 hl];rfl) ?_;refine⟨m - 1,by omega,i+1,n+sub[i].count (d+1),by omega,by omega,by omega,?_,by simp[again,bb,get,nq,vq,fh,Xp.jc]⟩;rw[<-hc,List.drop_eq_getElem_cons l5.1]
    conv=>rhs;unfold Xp.counts
    rw[if_pos l5.2]
   ·have oS:(decide (i<sub.length)&&decide (n<100))=false:=by simpa using λh=>Int.not_lt.1 λh'=>l5 ⟨h,h'⟩
    refine bL (t:=false) (by simp[ev,ao.get,oS]) ?_;simp only[Bool.false_eq_true,if_false];refine ki ?_;simp only[Ex.then,Ex.inBlock,if_true];have Aq:Xp.counts (d+1) sub 1=n:=by
     rw[<-hc];by_cases hi:i<sub.length
     ·exact Xp.vJ (λh=>l5 ⟨hi,h⟩) _
     ·rw[List.drop_eq_nil_of_le (by omega)];unfold Xp.counts;rfl
    refine aU ?_;refine bH (K:=0) (s':=⟨[(4,.nI (X.count d))],[(1000,.cells X.cs)],2152⟩) (λn' _=>by
     rw[Ap,Aq];by_cases hb:100<n<;>simp[mP,hb]) ?_
    exact cB rfl
theorem Xp.xA (d:Int) (n:Int):∀l:List Xp,Xp.eZ d 0 l n=n
 |[]=>by unfold Xp.eZ;rfl
 |x::l=>by unfold Xp.eZ;rfl
theorem DR (h:prog 170=some tJ) {x:Xp} (hx:x.ok):∀d:Int,0<=d->d<=21->kX prog 170 [x.av,.nI d] (.nI (x.deep d)):=by
 induction hx with
 |@mk k a s sub _ _ _ hl _ ih=>
  intro d Ka hd;generalize hX:Xp.mk k a s sub=X;have eI:X.sub=sub:=by rw[<-hX];rfl
  refine kX.of h rfl rfl (eN (by simp[Xp.av,Xp.gi];rfl) ?_);refine en ?_;refine aU (eN (by simp;rfl) ?_);by_cases ld:20<d
  ·refine bL (t:=true) (by simp[ev,ao.get,ld]) ?_;simp only[if_true];refine en ?_;refine cB ?_;have:X.deep d=20:=by rw[<-hX];unfold Xp.deep;rw[if_pos ld]
   rw[this];rfl
  ·refine bL (t:=false) (by simp[ev,ao.get,ld]) ?_;simp only[Bool.false_eq_true,if_false];refine dt (aU (en ?_));refine dS ?_;have Ap:X.deep d=if 20<Xp.eZ (d+1) 100 sub 0+1 then 20 else Xp.eZ (d+1) 100 sub 0+1:=by rw[<-hX];unfold Xp.deep;rw[if_neg ld]
   refine pD (λm s1=>∃(i:Nat) (n:Int),i+m=sub.length/\i<=100/\0<=n/\n<=20/\Xp.eZ (d+1) (100 - i) (sub.drop i) n=Xp.eZ (d+1) 100 sub 0/\
    s1=⟨[(1,.nI d),(2,.ref 1000 0 0 0),(5,.nI n),(6,.nI i)],[(1000,.cells X.cs)],1384⟩) (m:=sub.length) ⟨0,0,by omega,by omega,by omega,by omega,rfl,rfl⟩ ?_
   rintro m s1 ⟨i,n,Kb,KI,yA,yB,hc,rfl⟩;refine aU (aU ?_);refine bH (K:=0) (s':=⟨[(1,.nI d),(2,.ref 1000 0 0 0),(5,.nI n),(6,.nI i),(17,.bI (decide (i<sub.length)&&decide (i<100)))],[(1000,.cells X.cs)],1960⟩) (λn' _=>by
    have aT:decide ((i:Int)<(sub.length:Int))=decide (i<sub.length):=decide_eq_decide.2 (by omega);have Iu:decide ((i:Int)<100)=decide (i<100):=decide_eq_decide.2 (by omega);cases hb:decide (i<sub.length)<;>simp[X.l4,eI,Iu,hb]) ?_
   by_cases l5:i<sub.length/\i<100
   ·refine bL (t:=true) (by simp[ev,ao.get,l5.1,l5.2]) ?_;simp only[if_true];refine dt (aU (dS ?_));have hx:sub[i]?=some sub[i]:=List.getElem?_eq_getElem l5.1;obtain⟨K,hK⟩:=ih sub[i] (List.getElem_mem _) (d+1) (by omega) (by omega);have dV:=Xp.wm sub[i] (d+1);have hw:IntKind.i64.wrap (d+1)=d+1:=IntWalk.i64_in _ (by omega);refine bH (K:=K) (λn' cZ=>by
     have bJ:=hK n' cZ;simp only[Xp.av]at bJ;simp[X.l4,eI,hx,Xp.pj,Xp.sV,Xp.iA,hw,bJ,nW];rfl) ?_
    refine nF (by simp[gu l5.1 hl];rfl) ?_;refine⟨m - 1,by omega,i+1,if sub[i].deep (d+1) > n then sub[i].deep (d+1) else n,by omega,by omega,by split<;>omega,by split<;>omega,?_,by simp[again,bb,get,nq,vq,fh,Xp.jc]⟩;rw[<-hc,List.drop_eq_getElem_cons l5.1,show 100 - i=(100 - (i+1))+1 by omega]
    conv=>rhs;unfold Xp.eZ
   ·have oS:(decide (i<sub.length)&&decide (i<100))=false:=by simpa using λh=>Nat.not_lt.1 λh'=>l5 ⟨h,h'⟩
    refine bL (t:=false) (by simp[ev,ao.get,oS]) ?_;simp only[Bool.false_eq_true,if_false];refine ki ?_;simp only[Ex.then,Ex.inBlock,if_true];have Aq:Xp.eZ (d+1) 100 sub 0=n:=by
     rw[<-hc];by_cases hi:i<sub.length
     ·rw[show 100 - i=0 by omega];exact Xp.xA _ _ _
     ·rw[List.drop_eq_nil_of_le (by omega)];unfold Xp.eZ;rfl
    refine aU ?_;have Kc:IntKind.i64.wrap (n+1)=n+1:=IntWalk.i64_in _ (by omega);refine bH (K:=0) (s':=⟨[(4,.nI (X.deep d))],[(1000,.cells X.cs)],2216⟩) (λn' _=>by
     rw[Ap,Aq];by_cases hb:20<n+1<;>simp[mP,hb,Kc]) ?_
    exact cB rfl
theorem DS (vt:prog 27=some vN) (h:prog 204=some tK) {x:Xp} (hx:x.ok):kX prog 204 [x.av] (.bI x.eu):=by
 induction hx with
 |@mk k a s sub _ _ _ hl _ ih=>
  generalize hX:Xp.mk k a s sub=X;have eI:X.sub=sub:=by rw[<-hX];rfl
  have qn:X.set=s:=by rw[<-hX];rfl
  have fX:X.eu=(j0 s&&sub.all Xp.eu):=by rw[<-hX];unfold Xp.eu;rw[Xp.tn]
  refine kX.of h rfl rfl (eN (by simp[Xp.av,Xp.gi];rfl) ?_);refine aU (aU ?_);obtain⟨K,hK⟩:=DK vt [s] (by simp[maxLen]);refine bH (K:=K) (λn' cZ=>by
   have bJ:=hK n' cZ;simp only[eu,List.map_cons,List.map_nil,S.enc,List.all_cons,List.all_nil,Bool.and_true]at bJ;simp[X.DQ,qn,dK,bJ];rfl) ?_
  cases qW:j0 s with
  |false=>
   refine bL (t:=true) rfl (en ?_);refine cB ?_;rw[fX,qW];rfl
  |true=>
   refine bL (t:=false) rfl (dt (aU (en ?_)));refine dS (nS sub.length (λi=>⟨[(1,.ref 1000 0 0 0),(3,.nI i)],[(1000,.cells X.cs),(1256,.buf 0 4 [[.bool s.a,.sl 2 (s.i.map tl),.bool s.c,.sl 1 (s.s.map r3)]])],1512⟩)
    (λi=>(sub.take i).all Xp.eu=true) rfl (by simp) ?_ ?_)
   ·intro i hi hg;have aT:decide ((i:Int)<(sub.length:Int))=true:=decide_eq_true (by omega);refine aU (aU ?_);refine bH (K:=0) (λn' _=>by
     simp[X.l4,eI,hi];rfl) ?_
    refine bL (t:=true) rfl (dt (aU (dS (aU ?_))));have hx:sub[i]?=some sub[i]:=List.getElem?_eq_getElem hi;obtain⟨K,hK⟩:=ih sub[i] (List.getElem_mem _);refine bH (K:=K) (λn' cZ=>by
     have bJ:=hK n' cZ;simp only[Xp.av]at bJ;simp[X.l4,eI,hx,Xp.pj,Xp.sV,Xp.iA,bJ];rfl) ?_
    cases FZ:sub[i].eu with
    |false=>
     refine bL (t:=true) rfl (en ?_);refine cB ?_;rw[fX,qW,all_false hx FZ];rfl
    |true=>
     refine bL (t:=false) rfl (dt ?_);refine nF (by simp[gu hi hl];rfl) ?_;have hr:nrm 1512 [(1000,.cells X.cs),(1256,.buf 0 4 [[.bool s.a,.sl 2 (s.i.map tl),.bool s.c,.sl 1 (s.s.map r3)]])] 8 (.ref 1000 0 0 0) = .ref 1000 0 0 0:=by simp[nrm,ao.get]
     refine⟨by simp[again,bb,get,nq,hr,fh,Xp.jc],?_⟩;rw[gR hx,hg,FZ];rfl
   ·intro hg;refine aU (aU ?_);refine bH (K:=0) (λn' _=>by
     simp[X.l4,eI];rfl) ?_
    refine bL (t:=false) rfl (ki ?_);simp only[Ex.then,Ex.inBlock,if_true];refine en ?_;refine cB ?_;rw[List.take_length]at hg;rw[fX,qW,hg];rfl
end
section
variable {prog:Nat->Option al}
theorem Ev.run {f:Nat} {args:List AV} {p:AV×Hp} (h:Ev prog f args [] p) (hp:p.1 = .bI true):∃n bM,bg prog n f args []=some (.bI true,bM):=by
 obtain⟨K,h⟩:=h;exact⟨K,p.2,by rw[h K (Nat.le_refl _),<-hp]⟩
end
end ao
namespace ao
open Go
section
variable {α:Type} {lt:α->α->Bool}
end
def Cy (l:List (Int×Int)) (n:Int):Prop:=∃p ∈ l,p.1<=n/\n<=p.2
def normal (l:List (Int×Int)):Prop:=(∀p ∈ l,p.1<=p.2)/\l.Pairwise λp q=>p.2+1<q.1


end ao
namespace ao
open Go
attribute [local simp] aO Option.map_some aX step bG bk aW M.aJ M.run M.ok M.fresh M.write M.look M.lift bh ao.set ev ao.get bb bin ew hY mk params bU load cP eD fk gX eE eF idx len valid hU bound store cn ep un eqs jv bC bu M.bz fS cC ed c9 meets gv gM callee ek gL fz flat jf jE l6 Option.bind_some fl M.bind
section
variable {prog:Nat->Option al}
end
structure V where
 k:Int
 n:Int
 s:ByteArray
def V.enc (v:V):List IV:=[.int .i64 v.k,.int .i64 v.n,.str v.s]
def V.av (v:V):AV:=.agg [.iv (.int .i64 v.k),.iv (.int .i64 v.n),.iv (.str v.s)]
structure E where
 v0:V
 v1:V
 v2:V
 v3:V
def E.get (e:E):Nat->V
 |0=>e.v0
 |1=>e.v1
 |2=>e.v2
 |_=>e.v3
def E.enc (e:E):List IV:=e.v0.enc++(e.v1.enc++(e.v2.enc++e.v3.enc))
def E.cs (e:E):List AV:=e.enc.map .iv
def E.av (e:E):AV:=.agg e.cs
theorem E.jb (e:E):e.cs.length=12:=rfl
theorem E.jc (e:E) (n0:Nat) (h:Hp):e.cs.map (nrm n0 h 8)=e.cs:=kr n0 h e.enc
theorem E.dT (e:E):e.enc.all notNil=true:=by simp[E.enc,V.enc,notNil]
theorem E.iA (e:E) (w:Bool):M.aJ (gL w) e.cs = .ret e.cs:=jD w e.enc e.dT
theorem E.gi (e:E) (s:Nat):ep s e.cs = .ret e.cs:=iN e.enc s (by simp[E.enc,V.enc,notNil])
section
variable {prog:Nat->Option al}
end
def Xp.je (x:Xp):Bool:=!(decide (100<=x.count 0)||decide (20<=x.deep 0))&&x.eu
def DT (n:Int):List IV:=[.int .i64 n]
structure Hd where
 ps:List Int
 hs:List Int
 b:Int
 g:Int
def Hd.enc (h:Hd):List IV:=[.sl 1 (h.ps.map DT),.sl 1 (h.hs.map DT),.int .i64 h.b,.int .u64 h.g]
def Hd.cs (h:Hd):List AV:=h.enc.map .iv
def Hd.av (h:Hd):AV:=.agg h.cs
theorem Hd.dT (x:Hd):x.enc.all notNil=true:=by simp[Hd.enc,notNil]
theorem Hd.iA (x:Hd) (w:Bool):M.aJ (gL w) x.cs = .ret x.cs:=jD w x.enc x.dT
theorem Hd.gi (x:Hd) (s:Nat):ep s x.cs = .ret x.cs:=iN x.enc s x.dT
theorem Hd.jb (x:Hd):x.cs.length=4:=rfl
theorem Hd.Iv (x:Hd):x.cs.take 4=x.cs:=rfl
theorem Hd.jc (x:Hd) (n0:Nat) (h:Hp):x.cs.map (nrm n0 h 8)=x.cs:=kr n0 h x.enc
def Hd.je (h:Hd):Bool:=decide (h.ps.length<=100)&&decide (h.hs.length<=100)
structure Op where
 k:Int
 c:Int
 u:Int
 f:Int
 t:Int
 x:Xp
 e:E
structure Op.ok (o:Op):Prop where
 k:gj o.k
 c:gj o.c
 u:gj o.u
 f:gj o.f
 t:gj o.t
 x:o.x.ok
 e:∀i,i<4->gj (o.e.get i).k/\gj (o.e.get i).n/\(o.e.get i).s.size<=maxLen
def Op.enc (o:Op):List IV:=.int .i64 o.k::.int .i64 o.c::.int .i64 o.u::.int .i64 o.f::.int .i64 o.t::(o.x.enc++o.e.enc)
def Op.cs (o:Op):List AV:=o.enc.map .iv
def Op.av (o:Op):AV:=.agg o.cs
def pk (l:List Op):AV:=.iv (.sl 24 (l.map Op.enc))
theorem Op.dT (o:Op):o.enc.all notNil=true:=by simp[Op.enc,notNil,List.all_append,Xp.dT,E.dT]
theorem Op.gi (o:Op) (s:Nat):ep s o.cs = .ret o.cs:=iN o.enc s o.dT
theorem Op.iA (x:Op) (w:Bool):M.aJ (gL w) x.cs = .ret x.cs:=jD w x.enc x.dT
theorem Op.pM (o:Op):o.enc.length=24:=by obtain⟨_,_,_,_,_,x,e⟩:=o;cases x;rfl
theorem Op.jb (o:Op):o.cs.length=24:=by simp[Op.cs,Op.pM]
theorem Op.Fb (o:Op):o.cs.take 24=o.cs:=List.take_of_length_le (by rw[Op.jb];omega)
theorem Op.DU (o:Op):(o.enc.map AV.iv).take 24=o.cs:=o.Fb
theorem Op.jc (o:Op) (n0:Nat) (h:Hp):o.cs.map (nrm n0 h 8)=o.cs:=kr n0 h o.enc
theorem Op.Fc (o:Op):o.cs.take 1=[.nI o.k]:=rfl
theorem Op.Iw (o:Op):(o.cs.drop 5).take 7=o.x.cs:=by obtain⟨_,_,_,_,_,x,e⟩:=o;cases x;rfl
theorem Op.Fe (o:Op):(o.cs.drop 14).take 1=[.iv (.str o.e.v0.s)]:=by obtain⟨_,_,_,_,_,x,e⟩:=o;cases x;rfl
theorem Op.Ff (o:Op):(o.cs.drop 17).take 1=[.iv (.str o.e.v1.s)]:=by obtain⟨_,_,_,_,_,x,e⟩:=o;cases x;rfl
theorem Op.Fg (o:Op):(o.cs.drop 20).take 1=[.iv (.str o.e.v2.s)]:=by obtain⟨_,_,_,_,_,x,e⟩:=o;cases x;rfl
theorem Op.Fh (o:Op):(o.cs.drop 23).take 1=[.iv (.str o.e.v3.s)]:=by obtain⟨_,_,_,_,_,x,e⟩:=o;cases x;rfl
def E.F0 (e:E):Bool:=decide (300<IntKind.i64.wrap (IntKind.i64.wrap (IntKind.i64.wrap (e.v0.s.size+e.v1.s.size)+e.v2.s.size)+e.v3.s.size))
def Op.je (o:Op):Bool:=o.x.je&&!o.e.F0
def gK (l:List Op):Nat:=(l.filter λo=>o.k==1).length
def qN (h:Hd) (l:List Op):Bool:=l.all Op.je&&(h.je&&decide (gK l<=16)&&decide (l.length<=120))
section
variable {prog:Nat->Option al}
theorem DV (vt:prog 27=some vN) (vu:prog 169=some tI) (vw:prog 170=some tJ) (vy:prog 204=some tK) (h:prog 203=some wR) {x:Xp} (hx:x.ok):kX prog 203 [x.av] (.bI x.je):=by
 obtain⟨K1,pn⟩:=BG vu hx 0 (by omega) (by omega);obtain⟨K2,lL⟩:=DR vw hx 0 (by omega) (by omega);obtain⟨K3,zn⟩:=DS vt vy hx;refine kX.of h rfl rfl (eN (by simp[Xp.av,Xp.gi];rfl) ?_);refine aU (g9 (K:=max K1 K2) (s':=⟨[(1,.ref 1000 0 0 0),(10,.bI (decide (100<=x.count 0)||decide (20<=x.deep 0)))],[(1000,.cells x.cs)],1640⟩) (λn hn=>by
  have h1:=pn n (by omega);have h2:=lL n (by omega);simp only[Xp.av]at h1 h2;cases hb:decide (100<=x.count 0)<;>simp[Xp.DP,Xp.jb,Xp.iA,h1,h2,hb]) ?_)
 cases hb:(decide (100<=x.count 0)||decide (20<=x.deep 0))with
 |true=>
  refine bL (t:=true) rfl (en ?_);refine cB ?_;unfold Xp.je;rw[hb];rfl
 |false=>
  refine bL (t:=false) rfl (dt (g9 (K:=K3) (λn hn=>by
   have h3:=zn n (by omega);simp only[Xp.av]at h3;simp[Xp.DP,Xp.jb,Xp.iA,h3];rfl) ?_))
  refine cB ?_;unfold Xp.je;rw[hb];cases x.eu<;>rfl
theorem BH (h:prog 202=some wS) (x:Hd):kX prog 202 [x.av] (.bI x.je):=by
 refine kX.of h rfl rfl (eN (by simp[Hd.av,Hd.gi];rfl) ?_);refine eN (s':=⟨[(2,.bI x.je)],[(1000,.cells x.cs)],1832⟩) (by
  have e1:decide ((x.ps.length:Int)<=100)=decide (x.ps.length<=100):=decide_eq_decide.2 (by omega);have e2:decide ((x.hs.length:Int)<=100)=decide (x.hs.length<=100):=decide_eq_decide.2 (by omega);cases hb:decide (x.ps.length<=100)<;>simp[Hd.cs,Hd.enc,Hd.je,e1,e2,hb]) ?_
 exact cB rfl
theorem vz {n0:Nat} (h:1000<n0) (cs:List AV) (r:Hp):nrm n0 ((1000,.cells cs)::r) 8 (.ref 1000 0 0 0) = .ref 1000 0 0 0:=by simp[nrm,ao.get,h]
theorem xB {l:List Op} {i:Nat} {o:Op} (hx:l[i]?=some o):gK (l.take (i+1))=gK (l.take i)+(if o.k=1 then 1 else 0):=by
 unfold gK;rw[List.take_add_one,hx];simp only[Option.toList_some,List.filter_append,List.length_append];by_cases h:o.k=1<;>simp[h]
theorem Ar (l:List Op) (i:Nat):gK (l.take i)<=i:=by
 unfold gK;have h1:=List.length_filter_le (λo:Op=>o.k==1) (l.take i);have h2:(l.take i).length<=i:=List.length_take_le i l;omega
theorem BI (vt:prog 27=some vN) (vu:prog 169=some tI) (vw:prog 170=some tJ) (vy:prog 204=some tK) (As:prog 203=some wR) (Au:prog 202=some wS) (h:prog 201=some zD)
  (hd:Hd) (l:List Op) (hl:l.length<=maxLen) (hx:∀o ∈ l,o.x.ok):kX prog 201 [hd.av,pk l] (.bI (qN hd l)):=by
 refine kX.of h rfl rfl (eN (by simp[Hd.av,Hd.gi];rfl) ?_);refine en ?_;refine aU (en ?_);refine dS (nS l.length (λi=>⟨[(1,pk l),(2,.ref 1000 0 0 0),(5,.nI (gK (l.take i))),(6,.nI i)],[(1000,.cells hd.cs)],1256⟩) (λi=>(l.take i).all Op.je=true) rfl (by simp) ?_ ?_)
 ·intro i hi hg;refine aU (aU ?_);refine bH (K:=0) (λn' _=>by simp[pk,hi];rfl) ?_;refine bL (t:=true) rfl (dt (aU (dS (aU ?_))));have iQ:l[i]?=some l[i]:=List.getElem?_eq_getElem hi;generalize ho:l[i]=o at iQ;have bx:o.x.ok:=hx o (by rw[<-ho];exact List.getElem_mem _);refine bH (K:=0) (s':=⟨[(1,pk l),(2,.ref 1000 0 0 0),(5,.nI (gK (l.take i))),(6,.nI i),(7,.ref 1768 0 0 0)],
   [(1000,.cells hd.cs),(1777,.buf 0 2 []),(1779,.buf 0 1 []),(1780,.buf 0 7 []),(1768,.cells o.cs)],1896⟩) (λn' _=>by
    simp[pk,iQ,Op.DU,Op.pM,Op.jb,Op.gi]) ?_
  refine aU (aU ?_);obtain⟨K,hK⟩:=DV vt vu vw vy As bx;refine bH (K:=K) (s':=⟨[(1,pk l),(2,.ref 1000 0 0 0),(5,.nI (gK (l.take i))),(6,.nI i),(7,.ref 1768 0 0 0),(47,.bI (!o.je))],
   [(1000,.cells hd.cs),(1777,.buf 0 2 []),(1779,.buf 0 1 []),(1780,.buf 0 7 []),(1768,.cells o.cs)],3816⟩) (λn' cZ=>by
    have hc:=hK n' cZ;simp only[Xp.av]at hc;cases hf:o.x.je<;>simp[Op.Iw,Op.Fe,Op.Ff,Op.Fg,Op.Fh,Xp.jb,Xp.iA,hc,hf,Op.je,E.F0]) ?_
  cases hf:o.je with
  |false=>
   refine bL (t:=true) rfl (en ?_);refine cB ?_;unfold qN;rw[all_false iQ hf];rfl
  |true=>
   refine bL (t:=false) rfl (dt (aU ?_));refine bH (K:=0) (s':=⟨[(1,pk l),(2,.ref 1000 0 0 0),(5,.nI (gK (l.take i))),(6,.nI i),(50,.bI (decide (o.k=1)))],
    [(1000,.cells hd.cs),(1777,.buf 0 2 []),(1779,.buf 0 1 []),(1780,.buf 0 7 []),(1768,.cells o.cs)],4008⟩) (λn' _=>by simp[Op.Fc];rfl) ?_
   have hle:=Ar l i;have hw:IntKind.i64.wrap ((gK (l.take i):Int)+1)=(gK (l.take i):Int)+1:=gu (N:=l.length) (by omega) hl;have pz:=xB iQ;by_cases hk:o.k=1
   ·refine bL (t:=true) (by simp[ev,ao.get,hk]) ?_;simp only[if_true];refine nF (by simp[hw];rfl) ?_;refine nF (by simp[gu hi hl];rfl) ?_;refine⟨?_,by rw[gR iQ,hg,hf];rfl⟩;rw[pz,if_pos hk];simp[again,bb,get,nq,vz,fh,Hd.jc,pk]
   ·refine bL (t:=false) (by simp[ev,ao.get,hk]) ?_;simp only[Bool.false_eq_true,if_false];refine dt ?_;refine nF (by simp[gu hi hl];rfl) ?_;refine⟨?_,by rw[gR iQ,hg,hf];rfl⟩;rw[pz,if_neg hk];simp[again,bb,get,nq,vz,fh,Hd.jc,pk]
 ·intro hg;refine aU (aU ?_);refine bH (K:=0) (λn' _=>by simp[pk];rfl) ?_;refine bL (t:=false) rfl (ki ?_);simp only[Ex.then,Ex.inBlock,if_true];refine aU ?_;rw[List.take_length]at hg;obtain⟨K,hK⟩:=BH Au hd;refine bH (K:=K) (s':=⟨[(4,.bI (qN hd l))],[(1000,.cells hd.cs)],2280⟩) (λn' cZ=>by
   have hc:=hK n' cZ;simp only[Hd.av]at hc;have e1:decide ((gK l:Int)<=16)=decide (gK l<=16):=decide_eq_decide.2 (by omega);have e2:decide ((l.length:Int)<=120)=decide (l.length<=120):=decide_eq_decide.2 (by omega);cases hb:hd.je<;>cases wj:decide (gK l<=16)<;>simp[Hd.Iv,Hd.jb,Hd.iA,pk,hc,e1,e2,hb,wj,qN,hg]) ?_
  exact cB rfl
end
end ao
namespace aB
open Go ao
section
variable {p1:Nat->Option ao.al} {p2:Nat->Option al}
def free (h:Hp) (n:Nat):Bool:=(get h 4).isNone&&(get h 32).isNone&&(List.range 64).all λk=>(get h (4*(n+k))).isNone
theorem free_spec {h:Hp} {n:Nat} (hf:free h n=true):get h 4=none/\get h 32=none/\∀k,k<64->get h (4*(n+k))=none:=by
 simp only[free,Bool.and_eq_true,Option.isNone_iff_eq_none,List.all_eq_true,List.mem_range]at hf;exact⟨hf.1.1,hf.1.2,hf.2⟩
theorem zo (w:Bool) (n:Nat):∀l:List IV,l.all notNil=true->M.aJ (fz w (n+1)) (l.map AV.iv) = .ret l
 |[],_=>by simp[M.aJ]
 |x::r,h=>by
  simp only[List.all_cons,Bool.and_eq_true]at h;have ih:=zo w n r h.2;cases x with
  |aq e=>simp[notNil]at h
  |_=>rw[List.map_cons,M.aJ,ih];rfl
theorem vK {call:bS} {f:Nat} {args:List AV} {ys:List ao.AV} {y:ao.AV} {z:AV} {H:Hp} (h1:(M.aJ (ek false) args).run H=some (ys,H)) (h2:(call f ys []).bind shut=some y) (h3:flat y=true) (h4:yS y=some z) :
  (gv call (.iv (.fn f [])) args).run H=some (z,H):=by
 simp[gv,callee,aW,M.lift,M.run,h1,h2,h3,h4,M.ok]
def dH (o:ao.Op):List AV:=o.enc.map AV.iv
theorem pN (o:ao.Op):(dH o).length=24:=by simp[dH,ao.Op.pM]
theorem vA (o:ao.Op):(dH o).take 24=dH o:=List.take_of_length_le (by rw[pN];omega)
theorem DW (o:ao.Op):M.aJ (fz false 7) (dH o) = .ret o.enc:=zo false 6 o.enc o.dT
end
section
variable {p1:Nat->Option ao.al} {p2:Nat->Option al}
structure gk (p2:Nat->Option al):Prop where
 DX:p2 414=some xo
 DY:p2 284=some Dj
 DZ:p2 285=some Di
 D0:p2 286=some Dr
 D1:p2 287=some Dh
 D2:p2 288=some Dl
 D3:p2 289=some Ds
 D4:p2 290=some Dq
 D5:p2 291=some Dm
 D6:p2 292=some Dn
 D7:p2 293=some Dp
 D8:p2 294=some Dk
 D9:p2 304=some Du
 Ea:p2 306=some Dg
 Eb:p2 400=some Dt
 Ec:p2 401=some De
 Ed:p2 402=some Dd
 Ee:p2 403=some Dv
 Ef:p2 404=some Df
 Eg:p2 224=some Dw
theorem Fi (bD:bX p2) (L:gk p2) (H:Hp) (nx:Nat):Ev p1 p2 284 [.iv .bc] H nx (.iv (.aq 3),H,nx+4):=by
 refine Ev.at bD (n:=3) ?_;simp only[cm,bg,L.DY];rfl
theorem Fj (bD:bX p2) (L:gk p2) (H:Hp) (nx:Nat):Ev p1 p2 285 [.iv .bc] H nx (.iv (.aq 4),H,nx+4):=by
 refine Ev.at bD (n:=3) ?_;simp only[cm,bg,L.DZ];rfl
theorem Fk (bD:bX p2) (L:gk p2) (H:Hp) (nx:Nat):Ev p1 p2 289 [.iv .bc] H nx (.nI 0,H,nx+4):=by
 refine Ev.at bD (n:=3) ?_;simp only[cm,bg,L.D3];rfl
theorem Fl (bD:bX p2) (L:gk p2) (H:Hp) (nx:Nat):Ev p1 p2 290 [.iv .bc] H nx (.nI 0,H,nx+4):=by
 refine Ev.at bD (n:=3) ?_;simp only[cm,bg,L.D4];rfl
theorem Fm (bD:bX p2) (L:gk p2) (H:Hp) (nx:Nat):Ev p1 p2 291 [.iv .bc] H nx (.nI 0,H,nx+4):=by
 refine Ev.at bD (n:=3) ?_;simp only[cm,bg,L.D5];rfl
theorem Fo (bD:bX p2) (L:gk p2) (H:Hp) (nx:Nat):Ev p1 p2 292 [.iv .bc] H nx (.nI 0,H,nx+4):=by
 refine Ev.at bD (n:=3) ?_;simp only[cm,bg,L.D6];rfl
theorem Fp (bD:bX p2) (L:gk p2) (H:Hp) (nx:Nat):Ev p1 p2 293 [.iv .bc] H nx (.aR [.nI 0,.nI 0],H,nx+6):=by
 refine Ev.at bD (n:=3) ?_;simp only[cm,bg,L.D7];rfl
theorem xC (bD:bX p2) (L:gk p2) (H:Hp) (nx:Nat) (a:AV):Ev p1 p2 400 [.iv .bc,a] H nx (.iv .bc,H,nx+17):=by
 refine Ev.of bD L.Eb rfl rfl (aU ?_);refine bH (K:=0) (s':=⟨[(0,.iv .bc),(1,a)],H,nx+1⟩) (λn _=>rfl) ?_;refine aU (eN (s':=⟨[(0,.iv .bc),(1,a),(19,.bI true)],H,nx+16⟩) (by
  simp[aO,aX,step,bG,dI,bk,nL,bin,M.lift,aW,M.run,ev,bQ,bh,aQ,bb]) ?_)
 refine bL (t:=true) rfl (aU ?_);refine bH (K:=0) (s':=⟨[(4,.iv .bc)],H,nx+17⟩) (λn _=>rfl) ?_;exact cB ⟨rfl,rfl⟩
theorem Bg (bD:bX p2) (L:gk p2) (H:Hp) (nx:Nat) (a:AV):Ev p1 p2 304 [.iv .bc,a] H nx (.aR [.nI (-1),.nI 5],H,nx+19):=by
 refine Ev.of bD L.D9 rfl rfl (aU ?_);refine bH (K:=0) (s':=⟨[(0,.iv .bc),(1,a)],H,nx+2⟩) (λn _=>rfl) ?_;refine aU (eN (s':=⟨[(0,.iv .bc),(1,a),(20,.bI true)],H,nx+17⟩) (by
  simp[aO,aX,step,bG,dI,bk,nL,bin,M.lift,aW,M.run,ev,bQ,bh,aQ,bb]) ?_)
 refine bL (t:=true) rfl (aU ?_);refine bH (K:=0) (s':=⟨[(4,.nI (-1)),(5,.nI 5)],H,nx+19⟩) (λn _=>rfl) ?_;exact cB ⟨rfl,rfl⟩
theorem Bh (bD:bX p2) (L:gk p2) (H:Hp) (nx:Nat) (a:AV):Ev p1 p2 306 [.iv .bc,a] H nx (.aR [.iv .bc,.nI 7],H,nx+6):=by
 refine Ev.at bD (n:=3) ?_;simp only[cm,bg,L.Ea];rfl
theorem Fq (bD:bX p2) (L:gk p2) (H:Hp) (nx:Nat) (a:AV):Ev p1 p2 404 [.iv .bc,a] H nx (.iv (.aq 3),H,nx+4):=by
 refine Ev.at bD (n:=3) ?_;simp only[cm,bg,L.Ef];rfl
theorem Fs (bD:bX p2) (L:gk p2) (H:Hp) (nx:Nat):Ev p1 p2 403 [.iv .bc] H nx (.iv (.aq 3),H,nx+4):=by
 refine Ev.at bD (n:=3) ?_;simp only[cm,bg,L.Ee];rfl
theorem Eh (bD:bX p2) (L:gk p2) (H:Hp) (nx:Nat):Ev p1 p2 224 [.iv .bc] H nx (.iv (.aq 1),H,nx+4):=by
 refine Ev.at bD (n:=3) ?_;simp only[cm,bg,L.Eg];rfl
theorem Fu (bD:bX p2) (L:gk p2) (H:Hp) (nx:Nat) (a:AV):Ev p1 p2 402 [.iv .bc,a] H nx (.iv (.aq 3),H,nx+22):=by
 obtain⟨K1,pn⟩:=Bh (p1:=p1) bD L H (nx+1+8) a;obtain⟨K2,lL⟩:=Fs (p1:=p1) bD L H (nx+1+8+6+3);refine Ev.of bD L.Ed rfl rfl (aU ?_);refine bH (K:=0) (s':=⟨[(0,.iv .bc),(1,a)],H,nx+1⟩) (λn _=>rfl) ?_;refine g9 (K:=K1) (s':=⟨[(5,.iv .bc)],H,nx+1+8+6⟩) (λn hn=>by
  have h1:=pn n hn;simp[aO,aX,step,bG,dI,bk,callee,M.lift,ev,bQ,dM,params,aW,M.run,bh,aQ,bb,h1]) ?_
 refine g9 (K:=K2) (s':=⟨[(4,.iv (.aq 3))],H,nx+22⟩) (λn hn=>by
  have h1:=lL n hn;simp[aO,aX,step,bG,dI,bk,callee,M.lift,ev,bQ,dM,params,aW,M.run,bh,aQ,bb,h1]) ?_
 exact cB ⟨rfl,rfl⟩
theorem Fv (bD:bX p2) (L:gk p2) (H:Hp) (nx:Nat) (a:AV):Ev p1 p2 401 [.iv .bc,a] H nx (.iv (.aq 1),H,nx+22):=by
 obtain⟨K1,pn⟩:=Bh (p1:=p1) bD L H (nx+1+8) a;obtain⟨K2,lL⟩:=Eh (p1:=p1) bD L H (nx+1+8+6+3);refine Ev.of bD L.Ec rfl rfl (aU ?_);refine bH (K:=0) (s':=⟨[(0,.iv .bc),(1,a)],H,nx+1⟩) (λn _=>rfl) ?_;refine g9 (K:=K1) (s':=⟨[(5,.iv .bc)],H,nx+1+8+6⟩) (λn hn=>by
  have h1:=pn n hn;simp[aO,aX,step,bG,dI,bk,callee,M.lift,ev,bQ,dM,params,aW,M.run,bh,aQ,bb,h1]) ?_
 refine g9 (K:=K2) (s':=⟨[(4,.iv (.aq 1))],H,nx+22⟩) (λn hn=>by
  have h1:=lL n hn;simp[aO,aX,step,bG,dI,bk,callee,M.lift,ev,bQ,dM,params,aW,M.run,bh,aQ,bb,h1]) ?_
 exact cB ⟨rfl,rfl⟩
theorem Fw (bD:bX p2) (L:gk p2) (H:Hp) (nx:Nat) (a b:AV):Ev p1 p2 286 [.iv .bc,a,b] H nx (.iv (.aq 3),H,nx+28):=by
 obtain⟨K1,pn⟩:=xC (p1:=p1) bD L H (nx+1+6) a;obtain⟨K2,lL⟩:=Fq (p1:=p1) bD L H (nx+1+6+17) b;refine Ev.of bD L.D0 rfl rfl (aU ?_);refine bH (K:=0) (s':=⟨[(0,.iv .bc),(1,a),(2,b)],H,nx+1⟩) (λn _=>rfl) ?_;refine g9 (K:=max K1 K2) (s':=⟨[(6,.iv (.aq 3))],H,nx+28⟩) (λn hn=>by
  have h1:=pn n (by omega);have h2:=lL n (by omega);simp[aO,aX,step,bG,dI,bk,callee,M.lift,ev,bQ,dM,params,aW,M.run,bh,aQ,bb,h1,h2]) ?_
 exact cB ⟨rfl,rfl⟩
theorem Fx (bD:bX p2) (L:gk p2) (H:Hp) (nx:Nat) (a:AV):Ev p1 p2 287 [.iv .bc,a] H nx (.iv (.aq 3),H,nx+73):=by
 obtain⟨K1,pn⟩:=Bg (p1:=p1) bD L H (nx+1+8) a;obtain⟨K2,lL⟩:=xC (p1:=p1) bD L H (nx+1+8+19+6) (.nI (-1));obtain⟨K3,zn⟩:=Fu (p1:=p1) bD L H (nx+1+8+19+6+17) a;refine Ev.of bD L.D1 rfl rfl (aU ?_);refine bH (K:=0) (s':=⟨[(0,.iv .bc),(1,a)],H,nx+1⟩) (λn _=>rfl) ?_;refine g9 (K:=K1) (s':=⟨[(0,.iv .bc),(1,a),(5,.nI (-1))],H,nx+1+8+19⟩) (λn hn=>by
  have h1:=pn n hn;simp[aO,aX,step,bG,dI,bk,callee,M.lift,ev,bQ,dM,params,aW,M.run,bh,aQ,bb,h1]) ?_
 refine g9 (K:=max K2 K3) (s':=⟨[(4,.iv (.aq 3))],H,nx+73⟩) (λn hn=>by
  have h1:=lL n (by omega);have h2:=zn n (by omega);simp[aO,aX,step,bG,dI,bk,callee,M.lift,ev,bQ,dM,params,aW,M.run,bh,aQ,bb,h1,h2]) ?_
 exact cB ⟨rfl,rfl⟩
theorem Fy (bD:bX p2) (L:gk p2) (H:Hp) (nx:Nat) (a:AV):Ev p1 p2 288 [.iv .bc,a] H nx (.iv (.aq 1),H,nx+73):=by
 obtain⟨K1,pn⟩:=Bg (p1:=p1) bD L H (nx+1+8) a;obtain⟨K2,lL⟩:=xC (p1:=p1) bD L H (nx+1+8+19+6) (.nI (-1));obtain⟨K3,zn⟩:=Fv (p1:=p1) bD L H (nx+1+8+19+6+17) a;refine Ev.of bD L.D2 rfl rfl (aU ?_);refine bH (K:=0) (s':=⟨[(0,.iv .bc),(1,a)],H,nx+1⟩) (λn _=>rfl) ?_;refine g9 (K:=K1) (s':=⟨[(0,.iv .bc),(1,a),(5,.nI (-1))],H,nx+1+8+19⟩) (λn hn=>by
  have h1:=pn n hn;simp[aO,aX,step,bG,dI,bk,callee,M.lift,ev,bQ,dM,params,aW,M.run,bh,aQ,bb,h1]) ?_
 refine g9 (K:=max K2 K3) (s':=⟨[(4,.iv (.aq 1))],H,nx+73⟩) (λn hn=>by
  have h1:=lL n (by omega);have h2:=zn n (by omega);simp[aO,aX,step,bG,dI,bk,callee,M.lift,ev,bQ,dM,params,aW,M.run,bh,aQ,bb,h1,h2]) ?_
 exact cB ⟨rfl,rfl⟩
theorem Fz (bD:bX p2) (L:gk p2) (H:Hp) (nx:Nat) (cs:List AV) (hf:get H (4*nx)=none):Ev p1 p2 294 [.iv .bc,.agg cs] H nx (.aR [.nI 0,.nI 7],aB.set H (4*nx) (.cells cs),nx+7):=by
 refine Ev.of bD L.D8 rfl rfl (eN (s':=⟨[(0,.iv .bc),(3,.ref (4*nx) 0 0 0)],aB.set H (4*nx) (.cells cs),nx+3⟩) (by
  simp[aO,aX,step,bG,dI,bk,bU,params,aW,M.run,M.ok,M.fresh,M.write,hf,ev,bQ,dM,bh,aQ,bb]) ?_)
 refine aU (aU ?_);refine bH (K:=0) (s':=⟨[(0,.iv .bc),(3,.ref (4*nx) 0 0 0),(8,.bI true)],aB.set H (4*nx) (.cells cs),nx+5⟩) (λn _=>rfl) ?_;refine bL (t:=true) rfl (aU ?_);refine bH (K:=0) (s':=⟨[(4,.nI 0),(5,.nI 7)],aB.set H (4*nx) (.cells cs),nx+7⟩) (λn _=>rfl) ?_;exact cB ⟨rfl,rfl⟩
theorem qg (bD:bX p2) (hm:∀n,eO (cm p1 p2 n)) {K:Nat} {H h:Hp} {nx n:Nat} {r:AV} (e:cm p1 p2 K 295 [] H nx=some (r,h,n)) (qs:List (Nat×Ob)) (hq:gq qs h):Ev p1 p2 295 [] (bE qs H) nx (r,bE qs h,n):=
 Ev.at bD ((hm K _ _ _ _ _ _ _ e).2 qs hq)
theorem sW (bD:bX p2) (hm:∀n,eO (cm p1 p2 n)) (vt:p1 27=some ao.vN) (vu:p1 169=some ao.tI) (vw:p1 170=some ao.tJ) (vy:p1 204=some ao.tK) (As:p1 203=some ao.wR) (Au:p1 202=some ao.wS) (Ix:p1 201=some ao.zD)
  (L:gk p2)
  {K:Nat} (ht:∃h n h2 n2,cm p1 p2 K 295 [] .nil 12=some (.bI true,h,n)/\free h n=true/\cm p1 p2 K 295 [] h (n+2)=some (.bI true,h2,n2)/\free h2 n2=true) (o:ao.Op) (ho:o.x.ok):∃n p,cm p1 p2 n 414 [.agg (dH o)] .nil 1=some (.bI true,p):=by
 obtain⟨h,n,h2,n2,e1,f1,e2,f2⟩:=ht;obtain⟨f4,f32,ff⟩:=free_spec f1;obtain⟨g4,Kd, -⟩:=free_spec f2;obtain⟨KA,hA⟩:=qg bD hm e1 [(4,.cells (dH o))] (λp hp=>by simp at hp;subst hp;exact f4);obtain⟨KB,hB⟩:=qg bD hm e2 [(4,.cells (dH o)),(32,.buf 0 24 [dH o])] (λp hp=>by
  simp at hp;rcases hp with rfl | rfl
  ·exact g4
  ·exact Kd)
 obtain⟨KF,hF⟩:=BI vt vu vw vy As Au Ix ⟨[],[],0,0⟩ [o] (by simp[maxLen]) (λx hx=>by simp at hx;subst hx;exact ho);have F1:∀m,KA<=m->cm p1 p2 m 295 [] (aB.set (Tr.nil:Hp) 4 (.cells (dH o))) 12=some (.bI true,aB.set h 4 (.cells (dH o)),n):=hA;have Ke:∀m,KB<=m->cm p1 p2 m 295 [] (aB.set (aB.set h 4 (.cells (dH o))) 32 (.buf 0 24 [dH o])) (n+2)=some (.bI true,aB.set (aB.set h2 4 (.cells (dH o))) 32 (.buf 0 24 [dH o]),n2):=hB;have Kf:∀m,KF<=m->(one p1 m 201 [.agg [.iv (.sl 1 []),.iv (.sl 1 []),.nI 0,.iv (.int .u64 0)],.iv (.sl 24 [o.enc])] []).bind shut=some (.bI (qN ⟨[],[],0,0⟩ [o])):=hF
 suffices hW:∃q,Wp p1 p2 xo.body ⟨params [.agg (dH o)] 0,.nil,1⟩ (Fin xo.res (.bI true,q)) by
  obtain⟨q,hW⟩:=hW;obtain⟨M,hM⟩:=Ev.of bD L.DX rfl rfl hW;exact⟨M,q,hM M (Nat.le_refl M)⟩
 have g1:aB.get (aB.set h 4 (Ob.cells (dH o))) 32=none:=by rw[bO _ _ (by omega)];exact f32
 have je:∀(b:Bool),qN ⟨[],[],0,0⟩ [o]=b->∀m,KF<=m->(gv (one p1 m) (.iv (.fn 201 [])) [.agg [.iv (.aq 1),.iv (.aq 1),.nI 0,.iv (.int .u64 0)],.own 32 0 1 0]).run (aB.set (aB.set h 4 (.cells (dH o))) 32 (.buf 0 24 [dH o])) =
   some (.bI b,aB.set (aB.set h 4 (.cells (dH o))) 32 (.buf 0 24 [dH o])):=by
  intro b hb m hm;have a2:=Kf m hm;rw[hb]at a2;refine vK (ys:=[.agg [.iv (.sl 1 []),.iv (.sl 1 []),.nI 0,.iv (.int .u64 0)],.iv (.sl 24 [o.enc])]) ?_ a2 rfl rfl;have c1:ek false (.agg [.iv (.aq 1),.iv (.aq 1),.nI 0,.iv (.int .u64 0)]) = .ret (.agg [.iv (.sl 1 []),.iv (.sl 1 []),.nI 0,.iv (.int .u64 0)]):=rfl;have c2:M.aJ (M.aJ (fz false 7)) [dH o] = .ret [o.enc]:=by rw[M.aJ,DW];rfl
  have c3:(ek false (.own 32 0 1 0)).run (aB.set (aB.set h 4 (.cells (dH o))) 32 (.buf 0 24 [dH o]))=some (.iv (.sl 24 [o.enc]),aB.set (aB.set h 4 (.cells (dH o))) 32 (.buf 0 24 [dH o])):=by
   unfold ek;rw[aW];unfold fz;simp only[aW,M.look,M.run,an];simp[M.ok,M.run,aW,c2]
  simp only[M.aJ,c1,M.bind,aW,c3,M.run]
 have Ei:∀m,aO (one p1 m) (cm p1 p2 m) false [⟨some 1,.box 0 (.t 0),none,[]⟩,⟨some 2,.nU (.c (.bI false)),none,[]⟩] [1] ⟨params [.agg (dH o)] 0,.nil,1⟩=some ⟨[(1,.ref 4 0 0 0)],aB.set (Tr.nil:Hp) 4 (.cells (dH o)),3⟩:=by
  intro m;simp[aO,aX,step,bG,dI,bk,bU,params,aW,M.run,M.ok,M.fresh,M.write,lM,ev,bQ,bh,aQ,bb]
 cases hb:qN ⟨[],[],0,0⟩ [o]with
 |false=>
  refine⟨(aB.set (aB.set h2 4 (.cells (dH o))) 32 (.buf 0 24 [dH o]),n2),aU (bH (K:=0) (λm _=>Ei m) (aU (aU ?_)))⟩;refine bH (K:=max KA KF) (s':=⟨[(1,.ref 4 0 0 0),(16,.bI true)],aB.set (aB.set h 4 (.cells (dH o))) 32 (.buf 0 24 [dH o]),n⟩) (λm hm=>by
   have a1:=F1 m (by omega);have a2:=je false hb m (by omega);simp[aO,aX,step,bG,dI,bk,callee,bU,aW,M.run,M.ok,M.fresh,M.write,M.look,M.lift,M.aJ,ev,bQ,bh,an,g1,aQ,bb,a1,un,fl,load,cP,mk,vA,pN,dK,a2]) ?_
  refine bL (t:=true) rfl (g9 (K:=KB) (s':=⟨[(2,.bI true)],aB.set (aB.set h2 4 (.cells (dH o))) 32 (.buf 0 24 [dH o]),n2⟩) (λm hm=>by
   have a1:=Ke m (by omega);simp[aO,aX,step,bG,dI,bk,callee,M.run,ev,bQ,bh,aQ,bb,a1]) ?_)
  exact cB ⟨rfl,rfl⟩
 |true=>
  generalize Bi:aB.set (aB.set h 4 (Ob.cells (dH o))) 32 (.buf 0 24 [dH o])=H1;have k4:get H1 4=some (.cells (dH o)):=by rw[<-Bi,bO _ _ (by omega),an]
  have kf:∀k,9<=k->k<64->get H1 (4*(n+k))=none:=by
   intro k hk Ej;rw[<-Bi,bO _ _ (by omega),bO _ _ (by omega)];exact ff k Ej
  obtain⟨KD,hD⟩:=Fz (p1:=p1) bD L H1 (n+1+8) (dH o) (kf 9 (by omega) (by omega));generalize KU:aB.set H1 (4*(n+1+8)) (Ob.cells (dH o))=H2 at hD;obtain⟨K3,h3⟩:=Fp (p1:=p1) bD L H2 (n+1+8+7+7);generalize hN:n+1+8+7+7+6+43=N;obtain⟨K4,h4⟩:=Fi (p1:=p1) bD L H2 N;obtain⟨K5,h5⟩:=Fj (p1:=p1) bD L H2 (N+4);obtain⟨K6,h6⟩:=Fw (p1:=p1) bD L H2 (N+4+4) (.nI 0) (.nI 1);obtain⟨K7,h7⟩:=Fx (p1:=p1) bD L H2 (N+4+4+28) (.nI 0);obtain⟨K8,h8⟩:=Fy (p1:=p1) bD L H2 (N+4+4+28+73) (.nI 0);obtain⟨K9,h9⟩:=Fk (p1:=p1) bD L H2 (N+4+4+28+73+73);obtain⟨Kg,Kh⟩:=Fl (p1:=p1) bD L H2 (N+4+4+28+73+73+4)
  obtain⟨Ki,Kj⟩:=Fm (p1:=p1) bD L H2 (N+4+4+28+73+73+4+4);obtain⟨Kk,Kl⟩:=Fo (p1:=p1) bD L H2 (N+4+4+28+73+73+4+4+4);refine⟨(H2,N+4+4+28+73+73+4+4+4+4),aU (bH (K:=0) (λm _=>Ei m) (aU (aU ?_)))⟩;refine bH (K:=max KA KF) (s':=⟨[(1,.ref 4 0 0 0),(16,.bI false)],H1,n⟩) (λm hm=>by
   have a1:=F1 m (by omega);have a2:=je true hb m (by omega);rw[Bi]at a2;simp[aO,aX,step,bG,dI,bk,callee,bU,aW,M.run,M.ok,M.fresh,M.write,M.look,M.lift,M.aJ,ev,bQ,bh,an,g1,aQ,bb,a1,un,fl,load,cP,mk,vA,pN,dK,Bi,a2]) ?_
  refine bL (t:=false) rfl (dt (aU ?_));refine bH (K:=0) (s':=⟨[(1,.ref 4 0 0 0),(3,.iv .bc)],H1,n+1⟩) (λm _=>rfl) (aU ?_);refine bH (K:=KD) (s':=⟨[(3,.iv .bc),(5,.nI 7)],H2,n+1+8+7⟩) (λm hm=>by
   have a1:=hD m (by omega);simp[aO,aX,step,bG,dI,bk,callee,aW,M.run,M.ok,M.look,M.lift,ev,bQ,bh,an,aQ,bb,load,cP,mk,vA,pN,k4,a1]) (aU ?_)
  refine bH (K:=K3) (s':=⟨[(3,.iv .bc),(5,.nI 7),(6,.nI 0),(7,.nI 0)],H2,n+1+8+7+7+6⟩) (λm hm=>by
   have a1:=h3 m (by omega);simp[aO,aX,step,bG,dI,bk,callee,aW,M.run,M.lift,ev,bQ,bh,aQ,bb,a1]) (g9 (K:=max (max (max K4 K5) (max K6 K7)) (max (max K8 K9) (max Kg (max Ki Kk)))) (s':=⟨[(2,.bI true)],H2,N+4+4+28+73+73+4+4+4+4⟩) (λm hm=>by
   have a4:=h4 m (by omega);have a5:=h5 m (by omega);have a6:=h6 m (by omega);have a7:=h7 m (by omega);have a8:=h8 m (by omega);have a9:=h9 m (by omega);have Km:=Kh m (by omega);have Kn:=Kj m (by omega);have Ko:=Kl m (by omega);simp[aO,aX,step,bG,dI,bk,nL,bin,ew,len,callee,aW,M.run,M.ok,M.look,M.lift,ev,bQ,bh,aQ,bb,hN,a4,a5,a6,a7,a8,a9,Km,Kn,Ko,show IntKind.i64.wrap 0=0 by decide]) ?_)
  exact cB ⟨rfl,rfl⟩
end
def tB (x:IV):Prop:=∃sub:List Xp,x = .sl 7 (sub.map Xp.enc)/\sub.length<=maxLen/\∀y ∈ sub,y.ok
theorem gl {k:IntKind} {x:IV} (h:Fit (.int k) x):∃n,x = .int k n/\(Lit.int k n).wf=true:=by cases h;exact⟨_,rfl,by assumption⟩
theorem wo {x:IV} (h:Fit .str x):∃s,x = .str s/\s.size<=maxLen:=by cases h;exact⟨_,rfl,by assumption⟩
theorem vB {x:IV} (h:Fit .bool x):∃s,x = .bool s:=by cases h;exact⟨_,rfl⟩
theorem zq {es:List Sh} {x:IV} (h:Fit (.sl es) x):∃rows,x = .sl es.length rows/\rows.length<=maxLen/\∀r ∈ rows,bT es r:=by cases h;exact⟨_,rfl,by assumption,by assumption⟩
theorem bT.one {a:Sh} {ss:List Sh} {xs:List IV} (h:bT (a::ss) xs):∃x r,xs=x::r/\Fit a x/\bT ss r:=by cases h;exact⟨_,_,rfl,by assumption,by assumption⟩
theorem bT.none {xs:List IV} (h:bT [] xs):xs=[]:=by cases h;rfl
theorem bT.split:∀{ss ts:List Sh} {xs:List IV},bT (ss++ts) xs->∃a b,xs=a++b/\bT ss a/\bT ts b
 |[],_,xs,h=>⟨[],xs,rfl,.nil,h⟩
 |_::_,_,_,.cons h hs=>by
  obtain⟨a,b,rfl,ha,hb⟩:=bT.split hs;exact⟨_::a,b,rfl,.cons h ha,hb⟩
def FA:List Sh:=[.bool,.sl [.int .i64,.int .i64],.bool,.sl [.str]]
def r6:List Sh:=[.int .i64,.int .i64,.str]
def Av:List Sh:=r6++(r6++(r6++r6))
def xD:List Sh:=[.int .i64,.int .i64,.int .i64,.int .i64,.int .i64]++(iy++Av)
theorem BJ {r:List IV} (h:bT [.int .i64,.int .i64] r):∃p,r=tl p/\(gj p.1/\gj p.2):=by
 obtain⟨x,r,rfl,hx,h⟩:=h.one;obtain⟨y,r,rfl,hy,h⟩:=h.one;obtain rfl:=h.none;obtain⟨n,rfl,hn⟩:=gl hx;obtain⟨m,rfl,hm⟩:=gl hy;exact⟨(n,m),rfl,l0 hn,l0 hm⟩
theorem BK {r:List IV} (h:bT [.str] r):∃p,r=r3 p/\p.size<=maxLen:=by
 obtain⟨x,r,rfl,hx,h⟩:=h.one;obtain rfl:=h.none;obtain⟨n,rfl,hn⟩:=wo hx;exact⟨n,rfl,hn⟩
theorem BL {xs:List IV} (h:bT FA xs):∃s:S,xs=s.enc/\s.ok:=by
 obtain⟨a,_,rfl,ha,h⟩:=h.one;obtain⟨b,_,rfl,hb,h⟩:=h.one;obtain⟨c,_,rfl,hc,h⟩:=h.one;obtain⟨d,_,rfl,hd,h⟩:=h.one;obtain rfl:=h.none;obtain⟨va,rfl⟩:=vB ha;obtain⟨vc,rfl⟩:=vB hc;obtain⟨rows,rfl,kF,s5⟩:=zq hb;obtain⟨strs,rfl,nX,mW⟩:=zq hd;obtain⟨l,rfl,hl⟩:=nT tl (λp=>gj p.1/\gj p.2) rows λr hr=>BJ (s5 r hr)
 obtain⟨t,rfl,ht⟩:=nT r3 (λp=>p.size<=maxLen) strs λr hr=>BK (mW r hr)
 exact⟨⟨va,l,vc,t⟩,rfl,by rwa [List.length_map]at kF,by rwa [List.length_map]at nX,hl,ht⟩
theorem zt {r:List IV} (h:bT iy r) (hs:∃x,r[6]?=some x/\tB x):∃X:Xp,r=X.enc/\X.ok:=by
 obtain⟨k,_,rfl,hk,h⟩:=bT.one h;obtain⟨a,_,rfl,ha,h⟩:=bT.one h;obtain⟨c1,_,rfl,h1,h⟩:=bT.one h;obtain⟨c2,_,rfl,h2,h⟩:=bT.one h;obtain⟨c3,_,rfl,h3,h⟩:=bT.one h;obtain⟨c4,_,rfl,h4,h⟩:=bT.one h;obtain⟨c5,_,rfl,h5,h⟩:=bT.one h;obtain rfl:=bT.none h;obtain⟨k,rfl,Ej⟩:=gl hk;obtain⟨a,rfl,yZ⟩:=gl ha;obtain⟨x,hx,sub,rfl,hl,bx⟩:=hs;simp at hx;subst hx;obtain⟨s,hs,Iy⟩:=BL (.cons h1 (.cons h2 (.cons h3 (.cons h4 .nil))));refine⟨.mk k a s sub,?_,.mk (l0 Ej) (l0 yZ) Iy hl bx⟩;simp only[S.enc,List.cons.injEq,and_true]at hs;obtain⟨rfl,rfl,rfl,rfl⟩:=hs;simp[Xp.enc,Xp.qK]
theorem xE {s:Sh} {x:IV} (h:Fit s x):s = .ex->tB x:=by
 refine Fit.rec (motive_1:=λs x _=>s=Sh.ex->tB x) (motive_2:=λss xs _=>∀i:Nat,ss[i]?=some Sh.ex->∃x,xs[i]?=some x/\tB x) ?_ ?_ ?_ ?_ ?_ ?_ ?_ h
 ·intro b h;cases h
 ·intro k n hw h;cases h
 ·intro s hs h;cases h
 ·intro es rows hl hr ih h;cases h
 ·intro rows hl hr ih _;obtain⟨sub,rfl,bx⟩:=nT Xp.enc Xp.ok rows λr gp=>zt (hr r gp) (ih r gp 6 rfl)
  exact⟨sub,rfl,by rwa [List.length_map]at hl,bx⟩
 ·intro i hi;simp at hi
 ·intro s ss x xs h hs Kp Kq i hi;cases i with
  |zero=>
   simp at hi;exact⟨x,rfl,Kp hi⟩
  |succ i=>exact Kq i (by simpa using hi)
theorem BM {r:List IV} (h:bT iy r):∃X:Xp,r=X.enc/\X.ok:=by
 refine zt h ?_;obtain⟨_,_,rfl,_,h⟩:=bT.one h;obtain⟨_,_,rfl,_,h⟩:=bT.one h;obtain⟨_,_,rfl,_,h⟩:=bT.one h;obtain⟨_,_,rfl,_,h⟩:=bT.one h;obtain⟨_,_,rfl,_,h⟩:=bT.one h;obtain⟨_,_,rfl,_,h⟩:=bT.one h;obtain⟨x,_,rfl,h6,h⟩:=bT.one h;exact⟨x,rfl,xE h6 rfl⟩
theorem pO {xs:List IV} (h:bT r6 xs):∃v:V,xs=v.enc/\(gj v.k/\gj v.n/\v.s.size<=maxLen):=by
 obtain⟨a,_,rfl,ha,h⟩:=h.one;obtain⟨b,_,rfl,hb,h⟩:=h.one;obtain⟨c,_,rfl,hc,h⟩:=h.one;obtain rfl:=h.none;obtain⟨k,rfl,hk⟩:=gl ha;obtain⟨n,rfl,hn⟩:=gl hb;obtain⟨s,rfl,hs⟩:=wo hc;exact⟨⟨k,n,s⟩,rfl,l0 hk,l0 hn,hs⟩
theorem Ek {xs:List IV} (h:bT Av xs):∃e:E,xs=e.enc/\∀i,i<4->gj (e.get i).k/\gj (e.get i).n/\(e.get i).s.size<=maxLen:=by
 obtain⟨_,r1,rfl,h0,h⟩:=bT.split h;obtain⟨_,r2,rfl,h1,h⟩:=bT.split h;obtain⟨_,_,rfl,h2,h3⟩:=bT.split h;obtain⟨v0,rfl,k0⟩:=pO h0;obtain⟨v1,rfl,k1⟩:=pO h1;obtain⟨v2,rfl,k2⟩:=pO h2;obtain⟨v3,rfl,k3⟩:=pO h3;refine⟨⟨v0,v1,v2,v3⟩,rfl,λi hi=>?_⟩
 match i,hi with
 |0,_=>exact k0
 |1,_=>exact k1
 |2,_=>exact k2
 |3,_=>exact k3
theorem El {xs:List IV} (h:bT xD xs):∃o:ao.Op,xs=o.enc/\o.ok:=by
 obtain⟨a,_,rfl,ha,h⟩:=bT.one h;obtain⟨b,_,rfl,hb,h⟩:=bT.one h;obtain⟨c,_,rfl,hc,h⟩:=bT.one h;obtain⟨d,_,rfl,hd,h⟩:=bT.one h;obtain⟨e,_,rfl,he,h⟩:=bT.one h;obtain⟨x,v,rfl,hx,hv⟩:=bT.split (ss:=iy) (ts:=Av) h;obtain⟨a,rfl,yZ⟩:=gl ha;obtain⟨b,rfl,fM⟩:=gl hb;obtain⟨c,rfl,bJ⟩:=gl hc;obtain⟨d,rfl,rm⟩:=gl hd;obtain⟨e,rfl,cr⟩:=gl he;obtain⟨X,rfl,hX⟩:=BM hx;obtain⟨E,rfl,hE⟩:=Ek hv;exact⟨⟨a,b,c,d,e,X,E⟩,rfl,l0 yZ,l0 fM,l0 bJ,l0 rm,l0 cr,hX,hE⟩
theorem Em {x:AV} (h:xv true xD x):∃o:ao.Op,x = .agg (o.enc.map .iv)/\o.ok:=by
 obtain⟨xs,h,rfl⟩:=h;obtain⟨o,rfl,ho⟩:=El h;exact⟨o,rfl,ho⟩
def j1:Nat->IC->IC
 |m+1,.seq a b=>.seq a (j1 m b)
 |_,_=>.skip
def j3:Nat->IC->IC
 |m+1,.seq _ b=>j3 m b
 |_,c=>c
section
variable {c1:bS} {cx:cA} {n:Nat}
theorem mO:∀(m:Nat) (c:IC) {s s1:St} {r:Option (Ex×St)},aA c1 cx n (j1 m c) s=some (.norm,s1)->aA c1 cx n (j3 m c) s1=r->aA c1 cx n c s=r
 |0,c,s,s1,r,h1,h2=>by
  cases c<;>(simp only[j1,aA,Option.some.injEq,Prod.mk.injEq,true_and]at h1;subst h1;exact h2)
 |m+1,.seq a b,s,s1,r,h1,h2=>by
  simp only[j1,aA]at h1 ⊢;split at h1
  ·exact mO m b h1 h2
  ·rename_i e bF;exact absurd h1 (by intro h;exact bF _ h)
 |m+1,.skip,s,s1,r,h1,h2 | m+1,.gm _ _ _,s,s1,r,h1,h2 | m+1,.cond _ _ _,s,s1,r,h1,h2 | m+1,.block _ _,s,s1,r,h1,h2 | m+1,.loop _ _,s,s1,r,h1,h2 | m+1,.exit _,s,s1,r,h1,h2 | m+1,.ret,s,s1,r,h1,h2 | m+1,.scope _,s,s1,r,h1,h2 | m+1,.stop,s,s1,r,h1,h2=>by
  simp only[j1,aA,Option.some.injEq,Prod.mk.injEq,true_and]at h1;subst h1;exact h2
end
def vC:Tr Ob->Tr Ob->Bool
 |.nil,.nil=>true
 |.node v l r,.node v' l' r'=>yQ v v'&&(vC l l'&&vC r r')
 |_,_=>false
theorem r7:∀{x y:Tr Ob},vC x y=true->x=y
 |.nil,y,h=>by cases y<;>simp_all [vC]
 |.node v l r,y,h=>by
  cases y<;>simp[vC]at h;rw[uN h.1,r7 h.2.1,r7 h.2.2]
def wq:Fr->Fr->Bool
 |[],[]=>true
 |(i,x)::r,(j,y)::q=>i==j&&(j6 x y&&wq r q)
 |_,_=>false
theorem zu:∀{x y:Fr},wq x y=true->x=y
 |[],y,h=>by cases y<;>simp_all [wq]
 |(i,x)::r,y,h=>by
  cases y with
  |nil=>simp[wq]at h
  |cons p q=>
   obtain⟨j,y⟩:=p;simp[wq]at h;rw[h.1,rC h.2.1,zu h.2.2]
def En (s s':St):Bool:=wq s.fr s'.fr&&(vC s.hp s'.hp&&s.nx==s'.nx)
theorem Eo {s s':St} (h:En s s'=true):s=s':=by
 obtain⟨f,h',n⟩:=s;obtain⟨f',pQ,n'⟩:=s';simp only[En,Bool.and_eq_true,beq_iff_eq]at h;rw[zu h.1,r7 h.2.1,h.2.2]
def zw:Tr Ob->List (Nat×Ob)
 |.nil=>[]
 |.node v l r=>(match v with | some o=>[(0,o)] | none=>[])++((zw l).map (λp=>(2*p.1+1,p.2))++(zw r).map λp=>(2*p.1+2,p.2))
def part (p1:Nat->Option ao.al) (p2:Nat->Option al) (K:Nat) (c:IC) (s s':St):Bool:=match aA (one p1 (K+1)) (bg (one p1 (K+1)) p2 K) K c s with
 |some (.norm,t)=>En t s'
 |_=>false
def last (p1:Nat->Option ao.al) (p2:Nat->Option al) (K r:Nat) (c:IC) (s:St) (lo n:Nat):Bool:=match aA (one p1 (K+1)) (bg (one p1 (K+1)) p2 K) K c s with
 |some (.ret,t)=>t.nx==n&&(match get t.fr r with | some (.iv (.bool true))=>true | _=>false)&&vC (bE (zw t.hp) .nil) t.hp&&(zw t.hp).all λp=>decide (4*lo<=p.1/\p.1<4*n)
 |_=>false
section
variable {p1:Nat->Option ao.al} {p2:Nat->Option al}
theorem tr {K:Nat} {c:IC} {s s':St} (h:part p1 p2 K c s s'=true):aA (one p1 (K+1)) (bg (one p1 (K+1)) p2 K) K c s=some (.norm,s'):=by
 unfold part at h;split at h
 ·rename_i t e;rw[e,Eo h]
 ·cases h
theorem zx {K r:Nat} {c:IC} {s:St} {lo n:Nat} (h:last p1 p2 K r c s lo n=true):∃fr L,aA (one p1 (K+1)) (bg (one p1 (K+1)) p2 K) K c s=some (.ret,⟨fr,bE L .nil,n⟩)/\get fr r=some (.bI true)/\∀p ∈ L,4*lo<=p.1/\p.1<4*n:=by
 unfold last at h;split at h
 ·rename_i t e;simp only[Bool.and_eq_true,beq_iff_eq,List.all_eq_true,decide_eq_true_eq]at h;obtain⟨⟨⟨h1,h2⟩,h3⟩,h4⟩:=h;obtain⟨f,hp,nx⟩:=t;refine⟨f,zw hp,?_,?_,h4⟩
  ·rw[e,r7 h3,<-h1]
  ·split at h2
   ·assumption
   ·cases h2
 ·cases h
theorem Ep {g K r:Nat} {fn:al} (hg:p2 g=some fn) (hp:fn.iT=none) (hn:fn.np=0) (hr:fn.res=[.t r]) {nx n:Nat} {fr:Fr} {L:List (Nat×Ob)} (h:aA (one p1 (K+1)) (bg (one p1 (K+1)) p2 K) K fn.body ⟨[],.nil,nx⟩=some (.ret,⟨fr,bE L .nil,n⟩)) (ht:get fr r=some (.bI true)) :
  cm p1 p2 (K+1) g [] .nil nx=some (.bI true,bE L .nil,n):=by
 simp only[cm,bg,hg,hp,hn,List.length_nil,if_true];rw[show params [] 0=[] from rfl,h];simp[hr,dk,jG,ev,ht,M.run]
theorem Er {g K r:Nat} {fn:al} (hg:p2 g=some fn) (hp:fn.iT=none) (hn:fn.np=0) (hr:fn.res=[.t r]) {i j nx lo n:Nat} {s1 s2:St} (hA:part p1 p2 K (j1 i fn.body) ⟨[],.nil,nx⟩ s1=true) (hB:part p1 p2 K (j1 j (j3 i fn.body)) s1 s2=true)
  (hC:last p1 p2 K r (j3 j (j3 i fn.body)) s2 lo n=true):∃L,cm p1 p2 (K+1) g [] .nil nx=some (.bI true,bE L .nil,n)/\∀p ∈ L,4*lo<=p.1/\p.1<4*n:=by
 obtain⟨fr,L,e,h1,h2⟩:=zx hC;exact⟨L,Ep hg hp hn hr (mO i _ (tr hA) (mO j _ (tr hB) e)) h1,h2⟩
theorem Aw {g K':Nat} (hm:∀n,eO (cm p1 p2 n)) {a b c d:Nat} {L L2:List (Nat×Ob)} (h':cm p1 p2 K' g [] .nil c=some (.bI true,bE L2 .nil,d))
  (hL:∀p ∈ L,4*a<=p.1/\p.1<4*b) (Bj:∀p ∈ L2,4*c<=p.1/\p.1<4*d) (KV:b<=c):cm p1 p2 K' g [] (bE L .nil) c=some (.bI true,bE L (bE L2 .nil),d):=by
 refine(hm K' _ _ _ _ _ _ _ h').2 L λp hp=>?_
 rw[fj (λq hq=>?_),lM];have:=hL p hp;have:=Bj q hq;omega
theorem kA {L:List (Nat×Ob)} {n:Nat} (h:∀p ∈ L,p.1≠n):get (bE L (Tr.nil:Hp)) n=none:=by rw[fj h,lM]
theorem xF {g K:Nat} (hm:∀n,eO (cm p1 p2 n)) {a b c d:Nat} {L L2:List (Nat×Ob)} (h:cm p1 p2 K g [] .nil a=some (.bI true,bE L .nil,b)) (h':cm p1 p2 K g [] .nil c=some (.bI true,bE L2 .nil,d))
  (hL:∀p ∈ L,4*a<=p.1/\p.1<4*b) (Bj:∀p ∈ L2,4*c<=p.1/\p.1<4*d) (hc:c=b+2) (ha:9<=a) (KW:a<=b) (KX:c<=d) :
  ∃h n h2 n2,cm p1 p2 K g [] .nil a=some (.bI true,h,n)/\free h n=true/\cm p1 p2 K g [] h (n+2)=some (.bI true,h2,n2)/\free h2 n2=true:=by
 subst hc;refine⟨_,_,_,_,h,?_,Aw hm h' hL Bj (by omega),?_⟩
 ·simp only[free,Bool.and_eq_true,Option.isNone_iff_eq_none,List.all_eq_true,List.mem_range];refine⟨⟨kA λp hp=>?_,kA λp hp=>?_⟩,λk hk=>kA λp hp=>?_⟩<;>(have:=hL p hp;omega)
 ·simp only[free,Bool.and_eq_true,Option.isNone_iff_eq_none,List.all_eq_true,List.mem_range];refine⟨⟨?_,?_⟩,λk hk=>?_⟩<;>(rw[fj λp hp=>?_,kA λp hp=>?_]<;>first | (have:=hL p hp;omega) | (have:=Bj p hp;omega))
end
end aB
namespace aB
open ao Go
def lI (n:Int):AV:=.iv (.int .i64 n)
def lU (n:Int):AV:=.iv (.int .u64 n)
def lB (l:List Int):List (List AV):=l.map λn=>[.iv (.int .u8 n)]
def lC (l:List AV):Ob:=.cells l
def lO (v e:Nat) (l:List (List AV)):Ob:=.buf v e l
def aP:IV:=.sl 2 [[.int .i64 (-9223372036854775808),.int .i64 9223372036854775807]]
def xG (b c:Nat):St:=⟨[(1,.ref (c+96) 0 0 0),(2,lI 0),(4,lI 8),(5,lI 1),(6,lI 0)],bE [ ((c+6337),lC [.ref (c+6337) 0 0 0,.own (c+6534) 0 75 16]),((c+5501),lC [.ref (c+5501) 0 0 0,.own (c+5618) 0 80 4]),((c+1488),lO 0 1 [[lI 5]]),((c+2256),lC [lI 1,lI 0,.iv (.bool false),.own (c+1580) 0 1 0,.iv (.bool false),.iv (.aq 1),.iv (.aq 7)]),((c+3152),lO 0 3 [[lI 1,.iv (.sl 16 [[.bool false,.sl 2 [[.int .i64 1,.int .i64 5]],.bool false,.sl 1 [],.bool true,aP,.bool true,.sl 1 [],.bool true,aP,.bool true,.sl 1 [],.bool true,aP,.bool true,.sl 1 []]]),lU 0]]),((c+144),lC [.iv (.sl 2 [[.int .i64 0,.int .i64 1],[.int .i64 1,.int .i64 0]]),.ref (c+136) 0 0 0,lI 0,lI 1]),((c+4624),lO 0 3 [[lI 1,.iv (.sl 16 [[.bool false,.sl 2 [[.int .i64 1,.int .i64 5]],.bool false,.sl 1 [],.bool true,aP,.bool true,.sl 1 [],.bool true,aP,.bool true,.sl 1 [],.bool true,aP,.bool true,.sl 1 []]]),lU 0]]),((c+3600),lC [lI 0,.iv (.aq 16),lU 0]),((c+4368),lO 0 4 [[lI 1,.iv (.sl 16 [[.bool false,.sl 2 [[.int .i64 1,.int .i64 5]],.bool false,.sl 1 [],.bool true,aP,.bool true,.sl 1 [],.bool true,aP,.bool true,.sl 1 [],.bool true,aP,.bool true,.sl 1 []]]),lU 0,.own (c+4356) 0 1 0]]),((c+1168),lO 0 1 [[lI 1]]),((c+7056),lC [lI 1,lI 5]),((c+112),lO 0 1 [[lI 0],[lI 1]]),((c+240),lC [lI 1,lI 0]),((c+5104),lC [lI 1,lI 0]),((c+1520),lC [.own (c+1488) 0 1 0,.iv (.aq 1),lI 0,lU 0]),((c+12528),lC [lI (-9223372036854775808),lI 9223372036854775807]),((c+3824),.map []),((c+7216),lC [.iv (.int .u8 0),.iv (.int .u8 0),.iv (.int .u8 0),.iv (.int .u8 0),.iv (.int .u8 0),.iv (.int .u8 0),.iv (.int .u8 0),.iv (.int .u8 0),.iv (.int .u8 0),.iv (.int .u8 10)]),((c+432),.map [(lI 0,.ref (c+596) 0 0 0)]),((c+14512),lC [.iv (.int .u8 0),.iv (.int .u8 0),.iv (.int .u8 0),.iv (.int .u8 0),.iv (.int .u8 0),.iv (.int .u8 0),.iv (.int .u8 0),.iv (.int .u8 0),.iv (.int .u8 0),.iv (.int .u8 0)]),((c+96),lC [.own (c+112) 0 2 0,.own (c+864) 0 2 1,.ref (c+144) 0 0 0,lI 1,lI 0,.iv (.aq 3),.iv (.aq 4)]),((c+8160),lC [lI (-9223372036854775808),lI 9223372036854775807]),((c+3552),lC [lI 31,.iv (.sl 16 [[.bool false,.sl 2 [[.int .i64 1,.int .i64 5]],.bool false,.sl 1 [],.bool true,aP,.bool true,.sl 1 [],.bool true,aP,.bool true,.sl 1 [],.bool true,aP,.bool true,.sl 1 []]]),lU 0]),((c+864),lO 1 1 [[.ref (c+452) 0 0 0],[.ref (c+1036) 0 0 0]]),((c+4960),lO 0 18 [[lI 0,.iv (.bool false),.own (c+4812) 0 1 0,.iv (.aq 1),lI 0,lI 0,lI 0,lI 0,.iv (.str ⟨#[]⟩),lI 0,lI 0,.iv (.str ⟨#[]⟩),lI 0,lI 0,.iv (.str ⟨#[]⟩),lI 0,lI 0,.iv (.str ⟨#[]⟩)]]),((c+1696),.map [(lI 1,.bp 297 [.ref (c+96) 0 0 0] []),(lI 2,.bp 298 [.ref (c+96) 0 0 0] []),(lI 3,.bp 299 [.ref (c+96) 0 0 0] []),(lI 4,.bp 300 [.ref (c+96) 0 0 0] []),(lI 5,.bp 301 [.ref (c+96) 0 0 0] [])]),((c+1024),.map [(lI 0,.ref (c+1352) 0 0 0)]),((c+768),lC [.ref (c+796) 0 0 0,lU 0,.ref (c+760) 0 0 0,.iv (.aq 4),lI 0]),((c+3456),lC [.own (c+4812) 0 1 0,.iv (.aq 1)]),((c+1344),.map [(lI 31,.agg [lI 31,.iv (.sl 16 [[.bool false,.sl 2 [[.int .i64 1,.int .i64 5]],.bool false,.sl 1 [],.bool true,aP,.bool true,.sl 1 [],.bool true,aP,.bool true,.sl 1 [],.bool true,aP,.bool true,.sl 1 []]]),lU 0])]),((c+1216),.map []),((c+3520),.map [(lI 31,.iv (.bool true))]),((c+4184),lC [lI 31,.iv (.sl 16 [[.bool false,.sl 2 [[.int .i64 1,.int .i64 5]],.bool false,.sl 1 [],.bool true,aP,.bool true,.sl 1 [],.bool true,aP,.bool true,.sl 1 [],.bool true,aP,.bool true,.sl 1 []]]),lU 0]),((c+1624),lC [lI 1,lI 0,.iv (.bool false),.own (c+1580) 0 1 0,.iv (.bool false),.iv (.aq 1),.iv (.aq 7)]),((c+536),lO 0 1 [[lI 0]]),((c+5656),lO 0 1 [[lI 1]]),((c+5272),lC [lI 1,.iv (.sl 16 [[.bool false,.sl 2 [[.int .i64 1,.int .i64 5]],.bool false,.sl 1 [],.bool true,aP,.bool true,.sl 1 [],.bool true,aP,.bool true,.sl 1 [],.bool true,aP,.bool true,.sl 1 []]]),lU 0]),((c+4760),lC [lI 1,.iv (.sl 16 [[.bool false,.sl 2 [[.int .i64 1,.int .i64 5]],.bool false,.sl 1 [],.bool true,aP,.bool true,.sl 1 [],.bool true,aP,.bool true,.sl 1 [],.bool true,aP,.bool true,.sl 1 []]]),lU 0,.own (c+4356) 0 1 0]),((c+120),lC [.own (c+4) 0 1 0,.own (c+8) 0 2 0,lI 46,lU 0]),((c+1016),.map [(lI 1,.ref (c+1224) 0 0 0)]),((c+4600),lC [lI 1,.iv (.sl 16 [[.bool false,.sl 2 [[.int .i64 1,.int .i64 5]],.bool false,.sl 1 [],.bool true,aP,.bool true,.sl 1 [],.bool true,aP,.bool true,.sl 1 [],.bool true,aP,.bool true,.sl 1 []]]),lU 0,.own (c+4356) 0 1 0]),((c+760),.map []),((c+2296),lC [lI 1]),((c+3320),lO 0 3 [[lI 31,.iv (.sl 16 [[.bool false,.sl 2 [[.int .i64 1,.int .i64 5]],.bool false,.sl 1 [],.bool true,aP,.bool true,.sl 1 [],.bool true,aP,.bool true,.sl 1 [],.bool true,aP,.bool true,.sl 1 []]]),lU 0]]),((c+5944),lC [lI 1,.iv (.sl 16 [[.bool false,.sl 2 [[.int .i64 1,.int .i64 5]],.bool false,.sl 1 [],.bool true,aP,.bool true,.sl 1 [],.bool true,aP,.bool true,.sl 1 [],.bool true,aP,.bool true,.sl 1 []]]),lU 0]),((c+440),.map [(lI 1,.ref (c+768) 0 0 0)]),((c+2232),lC [lI 1,lI 0,.iv (.bool false),.own (c+1580) 0 1 0,.iv (.bool false),.iv (.aq 1),.iv (.aq 7)]),((c+8),.aZ 0 1 [[.int .i64 0],[.int .i64 1]]),((c+40),lC [.own (c+4) 0 1 0,.own (c+8) 0 2 0,lI 46,lU 0]),((c+10344),lC [lI (-9223372036854775808),lI 9223372036854775807]),((c+3496),.map []),((c+136),.map [(.agg [lI 0,lI 1],.iv (.aq 1)),(.agg [lI 1,lI 0],.own (c+14856) 0 1 0)]),((c+14856),lO 0 1 [[.iv (.str ⟨#[0,1,1,0,1,0,1,2,10,0,3,1,129,255,255,255,255,255,255,255,255,127,129,255,255,255,255,255,255,255,255,126,0,3,1,129,255,255,255,255,255,255,255,255,127,129,255,255,255,255,255,255,255,255,126,0,3,1,129,255,255,255,255,255,255,255,255,127,129,255,255,255,255,255,255,255,255,126,0,0]⟩)]]),((c+3720),lC [lI 31,.iv (.sl 16 [[.bool false,.sl 2 [[.int .i64 1,.int .i64 5]],.bool false,.sl 1 [],.bool true,aP,.bool true,.sl 1 [],.bool true,aP,.bool true,.sl 1 [],.bool true,aP,.bool true,.sl 1 []]]),lU 0]),((c+6024),lC [.iv (.int .u8 0),.iv (.int .u8 0),.iv (.int .u8 0),.iv (.int .u8 0),.iv (.int .u8 0),.iv (.int .u8 0),.iv (.int .u8 0),.iv (.int .u8 0),.iv (.int .u8 0),.iv (.int .u8 1)]),((c+5192),lC [.iv (.bool false),.own (c+4812) 0 1 0,.iv (.aq 1),lI 0,lI 0,lI 0,lI 0,.iv (.str ⟨#[]⟩),lI 0,lI 0,.iv (.str ⟨#[]⟩),lI 0,lI 0,.iv (.str ⟨#[]⟩),lI 0,lI 0,.iv (.str ⟨#[]⟩)]),((c+1352),lC [.ref (c+1380) 0 0 0,lU 0,.ref (c+1344) 0 0 0,.own (c+4368) 0 1 0,lI 1]),((c+1224),lC [lI 1,.own (c+3156) 0 1 0,.ref (c+1216) 0 0 0,.iv (.aq 1)]),((c+4296),lC [lI 1,.iv (.sl 16 [[.bool false,.sl 2 [[.int .i64 1,.int .i64 5]],.bool false,.sl 1 [],.bool true,aP,.bool true,.sl 1 [],.bool true,aP,.bool true,.sl 1 [],.bool true,aP,.bool true,.sl 1 []]]),lU 0]),((c+4808),lO 0 3 [[lI 1,.iv (.sl 16 [[.bool false,.sl 2 [[.int .i64 1,.int .i64 5]],.bool false,.sl 1 [],.bool true,aP,.bool true,.sl 1 [],.bool true,aP,.bool true,.sl 1 [],.bool true,aP,.bool true,.sl 1 []]]),lU 0]]),((c+12244),lO 0 1 (lB [3])),((c+5076),lC [.iv (.bool false),.own (c+4812) 0 1 0,.iv (.aq 1),lI 0,lI 0,lI 0,lI 0,.iv (.str ⟨#[]⟩),lI 0,lI 0,.iv (.str ⟨#[]⟩),lI 0,lI 0,.iv (.str ⟨#[]⟩),lI 0,lI 0,.iv (.str ⟨#[]⟩)]),((c+7124),lC [.iv (.int .u8 0),.iv (.int .u8 0),.iv (.int .u8 0),.iv (.int .u8 0),.iv (.int .u8 0),.iv (.int .u8 0),.iv (.int .u8 0),.iv (.int .u8 0),.iv (.int .u8 0),.iv (.int .u8 2)]),((c+596),lC [lI 0,.iv (.aq 3),.ref (c+588) 0 0 0,.iv (.aq 1)]),((c+3156),lO 0 3 [[lI 1,.iv (.sl 16 [[.bool false,.sl 2 [[.int .i64 1,.int .i64 5]],.bool false,.sl 1 [],.bool true,aP,.bool true,.sl 1 [],.bool true,aP,.bool true,.sl 1 [],.bool true,aP,.bool true,.sl 1 []]]),lU 0]]),((c+1620),lC [.iv (.bool false),.own (c+1580) 0 1 0,.iv (.bool false),.iv (.aq 1)]),((c+5716),lC [.iv (.int .u8 0),.iv (.int .u8 0),.iv (.int .u8 0),.iv (.int .u8 0),.iv (.int .u8 0),.iv (.int .u8 0),.iv (.int .u8 0),.iv (.int .u8 0),.iv (.int .u8 0),.iv (.int .u8 1)]),((c+2068),lC [lI 1,lI 0,.iv (.bool false),.own (c+1580) 0 1 0,.iv (.bool false),.iv (.aq 1),.iv (.aq 7)]),((c+12308),lC [.iv (.int .u8 0),.iv (.int .u8 0),.iv (.int .u8 0),.iv (.int .u8 0),.iv (.int .u8 0),.iv (.int .u8 0),.iv (.int .u8 0),.iv (.int .u8 0),.iv (.int .u8 0),.iv (.int .u8 1)]),((c+788),.map []),((c+2292),lC [lI 1,lI 0,.iv (.bool false),.own (c+1580) 0 1 0,.iv (.bool false),.iv (.aq 1),.iv (.aq 7)]),((c+6260),lC [.iv (.int .u8 0),.iv (.int .u8 0),.iv (.int .u8 0),.iv (.int .u8 0),.iv (.int .u8 0),.iv (.int .u8 0),.iv (.int .u8 0),.iv (.int .u8 0),.iv (.int .u8 0),.iv (.int .u8 0)]),((c+14452),lO 0 1 [[lI 0]]),((c+6772),lO 0 1 (lB [0])),((c+3444),lC [.own (c+4812) 0 1 0,.iv (.aq 1)]),((c+12596),lC [.iv (.int .u8 129),.iv (.int .u8 255),.iv (.int .u8 255),.iv (.int .u8 255),.iv (.int .u8 255),.iv (.int .u8 255),.iv (.int .u8 255),.iv (.int .u8 255),.iv (.int .u8 255),.iv (.int .u8 127)]),((c+436),.map []),((c+6836),lC [.iv (.int .u8 0),.iv (.int .u8 0),.iv (.int .u8 0),.iv (.int .u8 0),.iv (.int .u8 0),.iv (.int .u8 0),.iv (.int .u8 0),.iv (.int .u8 0),.iv (.int .u8 0),.iv (.int .u8 1)]),((c+14004),lC [.iv (.int .u8 0),.iv (.int .u8 0),.iv (.int .u8 0),.iv (.int .u8 0),.iv (.int .u8 0),.iv (.int .u8 0),.iv (.int .u8 0),.iv (.int .u8 0),.iv (.int .u8 0),.iv (.int .u8 0)]),((c+4),.aZ 0 1 [[.int .i64 0]]),((c+6372),lC [.iv (.int .u8 0),.iv (.int .u8 0),.iv (.int .u8 0),.iv (.int .u8 0),.iv (.int .u8 0),.iv (.int .u8 0),.iv (.int .u8 0),.iv (.int .u8 0),.iv (.int .u8 0),.iv (.int .u8 1)]),((c+1380),lC [lI 46,.ref (c+1372) 0 0 0,lI 0,lI 0]),((c+2916),.aZ 0 16 [[.bool false,.sl 2 [[.int .i64 1,.int .i64 5]],.bool false,.sl 1 [],.bool true,aP,.bool true,.sl 1 [],.bool true,aP,.bool true,.sl 1 [],.bool true,aP,.bool true,.sl 1 []]]),((c+8228),lC [.iv (.int .u8 129),.iv (.int .u8 255),.iv (.int .u8 255),.iv (.int .u8 255),.iv (.int .u8 255),.iv (.int .u8 255),.iv (.int .u8 255),.iv (.int .u8 255),.iv (.int .u8 255),.iv (.int .u8 127)]),((c+11044),lC [.iv (.int .u8 129),.iv (.int .u8 255),.iv (.int .u8 255),.iv (.int .u8 255),.iv (.int .u8 255),.iv (.int .u8 255),.iv (.int .u8 255),.iv (.int .u8 255),.iv (.int .u8 255),.iv (.int .u8 126)]),((c+3876),lC [.iv (.aq 1)]),((c+932),lC [.own (c+4) 0 1 0,.own (c+8) 0 2 0,lI 46,lU 0]),((c+1444),lO 0 1 [[.ref (c+1036) 0 0 0]]),((c+9636),lC [.iv (.int .u8 0),.iv (.int .u8 0),.iv (.int .u8 0),.iv (.int .u8 0),.iv (.int .u8 0),.iv (.int .u8 0),.iv (.int .u8 0),.iv (.int .u8 0),.iv (.int .u8 0),.iv (.int .u8 0)]),((c+5028),lC [lI 0,.iv (.bool false),.own (c+4812) 0 1 0,.iv (.aq 1),lI 0,lI 0,lI 0,lI 0,.iv (.str ⟨#[]⟩),lI 0,lI 0,.iv (.str ⟨#[]⟩),lI 0,lI 0,.iv (.str ⟨#[]⟩),lI 0,lI 0,.iv (.str ⟨#[]⟩)]),((c+1028),.map [(.agg [lI 1,lI 1],lI 31)]),((c+14852),lO 0 1 [[.iv (.str ⟨#[0,1,1,0,1,0,1,2,10,0,3,1,129,255,255,255,255,255,255,255,255,127,129,255,255,255,255,255,255,255,255,126,0,3,1,129,255,255,255,255,255,255,255,255,127,129,255,255,255,255,255,255,255,255,126,0,3,1,129,255,255,255,255,255,255,255,255,127,129,255,255,255,255,255,255,255,255,126,0,0]⟩)]]),((c+4356),lO 0 1 [[lI 31]]),((c+7940),lC [.iv (.int .u8 0),.iv (.int .u8 0),.iv (.int .u8 0),.iv (.int .u8 0),.iv (.int .u8 0),.iv (.int .u8 0),.iv (.int .u8 0),.iv (.int .u8 0),.iv (.int .u8 0),.iv (.int .u8 1)]),((c+452),lC [lU 0,.own (c+540) 0 1 0,.iv (.sl 1 [[.int .i64 1]]),.ref (c+432) 0 0 0,.ref (c+436) 0 0 0,.ref (c+440) 0 0 0,.ref (c+444) 0 0 0,lI 0,lI 0]),((c+7876),lO 0 1 (lB [3])),((c+348),lC [.own (c+4) 0 1 0,.own (c+8) 0 2 0,lI 46,lU 0]),((c+860),lO 0 1 [[.ref (c+452) 0 0 0]]),((c+1372),.map []),((c+4956),lO 0 18 [[lI 0,.iv (.bool false),.own (c+4812) 0 1 0,.iv (.aq 1),lI 0,lI 0,lI 0,lI 0,.iv (.str ⟨#[]⟩),lI 0,lI 0,.iv (.str ⟨#[]⟩),lI 0,lI 0,.iv (.str ⟨#[]⟩),lI 0,lI 0,.iv (.str ⟨#[]⟩)]]),((c+540),lO 0 1 [[lI 0]]),((c+796),lC [lI 46,.ref (c+788) 0 0 0,lI 0,lI 0]),((c+7452),lC [.iv (.int .u8 0),.iv (.int .u8 0),.iv (.int .u8 0),.iv (.int .u8 0),.iv (.int .u8 0),.iv (.int .u8 0),.iv (.int .u8 0),.iv (.int .u8 0),.iv (.int .u8 0),.iv (.int .u8 0)]),((c+8860),lC [.iv (.int .u8 129),.iv (.int .u8 255),.iv (.int .u8 255),.iv (.int .u8 255),.iv (.int .u8 255),.iv (.int .u8 255),.iv (.int .u8 255),.iv (.int .u8 255),.iv (.int .u8 255),.iv (.int .u8 126)]),((c+1020),.map []),((c+188),lC [lI 0,lI 1]),((c+444),.map []),((c+5612),lO 0 1 (lB [0])),((c+1644),lC [lI 1,lI 1,lI 0,lI 0,lI 0,lI 1,lI 0,.iv (.bool false),.own (c+1580) 0 1 0,.iv (.bool false),.iv (.aq 1),.iv (.aq 7),lI 0,lI 0,.iv (.str ⟨#[]⟩),lI 0,lI 0,.iv (.str ⟨#[]⟩),lI 0,lI 0,.iv (.str ⟨#[]⟩),lI 0,lI 0,.iv (.str ⟨#[]⟩)]),((c+1580),.aZ 0 2 [[.int .i64 1,.int .i64 5]]),((c+11820),lC [.iv (.int .u8 0),.iv (.int .u8 0),.iv (.int .u8 0),.iv (.int .u8 0),.iv (.int .u8 0),.iv (.int .u8 0),.iv (.int .u8 0),.iv (.int .u8 0),.iv (.int .u8 0),.iv (.int .u8 0)]),((c+10412),lC [.iv (.int .u8 129),.iv (.int .u8 255),.iv (.int .u8 255),.iv (.int .u8 255),.iv (.int .u8 255),.iv (.int .u8 255),.iv (.int .u8 255),.iv (.int .u8 255),.iv (.int .u8 255),.iv (.int .u8 127)]),((c+13228),lC [.iv (.int .u8 129),.iv (.int .u8 255),.iv (.int .u8 255),.iv (.int .u8 255),.iv (.int .u8 255),.iv (.int .u8 255),.iv (.int .u8 255),.iv (.int .u8 255),.iv (.int .u8 255),.iv (.int .u8 126)]),((c+1036),lC [lU 0,.own (c+1168) 0 1 0,.iv (.sl 1 [[.int .i64 0]]),.ref (c+1016) 0 0 0,.ref (c+1020) 0 0 0,.ref (c+1024) 0 0 0,.ref (c+1028) 0 0 0,lI 1,lI 0]),((c+4620),lO 0 3 [[lI 1,.iv (.sl 16 [[.bool false,.sl 2 [[.int .i64 1,.int .i64 5]],.bool false,.sl 1 [],.bool true,aP,.bool true,.sl 1 [],.bool true,aP,.bool true,.sl 1 [],.bool true,aP,.bool true,.sl 1 []]]),lU 0]]),((c+4364),lO 0 4 [[lI 1,.iv (.sl 16 [[.bool false,.sl 2 [[.int .i64 1,.int .i64 5]],.bool false,.sl 1 [],.bool true,aP,.bool true,.sl 1 [],.bool true,aP,.bool true,.sl 1 [],.bool true,aP,.bool true,.sl 1 []]]),lU 0,.own (c+4356) 0 1 0]]),((c+4876),lC [.ref (c+3824) 0 0 0]),((c+1164),lO 0 1 [[lI 1]]),((c+10124),lC [.iv (.int .u8 0),.iv (.int .u8 0),.iv (.int .u8 0),.iv (.int .u8 0),.iv (.int .u8 0),.iv (.int .u8 0),.iv (.int .u8 0),.iv (.int .u8 0),.iv (.int .u8 0),.iv (.int .u8 1)]),((c+588),.map []),((c+4428),lC [.ref (c+1352) 0 0 0]),((c+5964),lO 0 1 [[lI 1]]),((c+10060),lO 0 1 (lB [3])),((c+4812),lO 0 3 [[lI 1,.iv (.sl 16 [[.bool false,.sl 2 [[.int .i64 1,.int .i64 5]],.bool false,.sl 1 [],.bool true,aP,.bool true,.sl 1 [],.bool true,aP,.bool true,.sl 1 [],.bool true,aP,.bool true,.sl 1 []]]),lU 0]]),((c+5618),.aZ 4 1 [[.int .u8 0],[.int .u8 1],[.int .u8 1],[.int .u8 0],[.int .u8 1],[.int .u8 0],[.int .u8 1],[.int .u8 2],[.int .u8 10],[.int .u8 0],[.int .u8 3],[.int .u8 1],[.int .u8 129],[.int .u8 255],[.int .u8 255],[.int .u8 255],[.int .u8 255],[.int .u8 255],[.int .u8 255],[.int .u8 255],[.int .u8 255],[.int .u8 127],[.int .u8 129],[.int .u8 255],[.int .u8 255],[.int .u8 255],[.int .u8 255],[.int .u8 255],[.int .u8 255],[.int .u8 255],[.int .u8 255],[.int .u8 126],[.int .u8 0],[.int .u8 3],[.int .u8 1],[.int .u8 129],[.int .u8 255],[.int .u8 255],[.int .u8 255],[.int .u8 255],[.int .u8 255],[.int .u8 255],[.int .u8 255],[.int .u8 255],[.int .u8 127],[.int .u8 129],[.int .u8 255],[.int .u8 255],[.int .u8 255],[.int .u8 255],[.int .u8 255],[.int .u8 255],[.int .u8 255],[.int .u8 255],[.int .u8 126],[.int .u8 0],[.int .u8 3],[.int .u8 1],[.int .u8 129],[.int .u8 255],[.int .u8 255],[.int .u8 255],[.int .u8 255],[.int .u8 255],[.int .u8 255],[.int .u8 255],[.int .u8 255],[.int .u8 127],[.int .u8 129],[.int .u8 255],[.int .u8 255],[.int .u8 255],[.int .u8 255],[.int .u8 255],[.int .u8 255],[.int .u8 255],[.int .u8 255],[.int .u8 126],[.int .u8 0],[.int .u8 0]]),((c+6534),.aZ 16 1 [[.int .u8 1],[.int .u8 0],[.int .u8 1],[.int .u8 2],[.int .u8 10],[.int .u8 0],[.int .u8 3],[.int .u8 1],[.int .u8 129],[.int .u8 255],[.int .u8 255],[.int .u8 255],[.int .u8 255],[.int .u8 255],[.int .u8 255],[.int .u8 255],[.int .u8 255],[.int .u8 127],[.int .u8 129],[.int .u8 255],[.int .u8 255],[.int .u8 255],[.int .u8 255],[.int .u8 255],[.int .u8 255],[.int .u8 255],[.int .u8 255],[.int .u8 126],[.int .u8 0],[.int .u8 3],[.int .u8 1],[.int .u8 129],[.int .u8 255],[.int .u8 255],[.int .u8 255],[.int .u8 255],[.int .u8 255],[.int .u8 255],[.int .u8 255],[.int .u8 255],[.int .u8 127],[.int .u8 129],[.int .u8 255],[.int .u8 255],[.int .u8 255],[.int .u8 255],[.int .u8 255],[.int .u8 255],[.int .u8 255],[.int .u8 255],[.int .u8 126],[.int .u8 0],[.int .u8 3],[.int .u8 1],[.int .u8 129],[.int .u8 255],[.int .u8 255],[.int .u8 255],[.int .u8 255],[.int .u8 255],[.int .u8 255],[.int .u8 255],[.int .u8 255],[.int .u8 127],[.int .u8 129],[.int .u8 255],[.int .u8 255],[.int .u8 255],[.int .u8 255],[.int .u8 255],[.int .u8 255],[.int .u8 255],[.int .u8 255],[.int .u8 126],[.int .u8 0]])] .nil,b+3744⟩
def xH (b c:Nat):St:=⟨[(1,.ref (c+96) 0 0 0),(2,lI 0),(4,lI 8),(5,lI 1),(6,lI 0),(7,lI 1)],bE [ ((c+6337),lC [.ref (c+6337) 0 0 0,.own (c+6534) 0 75 16]),((c+5501),lC [.ref (c+5501) 0 0 0,.own (c+5618) 0 80 4]),((c+1488),lO 0 1 [[lI 5]]),((c+2256),lC [lI 1,lI 0,.iv (.bool false),.own (c+1580) 0 1 0,.iv (.bool false),.iv (.aq 1),.iv (.aq 7)]),((c+3152),lO 0 3 [[lI 1,.iv (.sl 16 [[.bool false,.sl 2 [[.int .i64 1,.int .i64 5]],.bool false,.sl 1 [],.bool true,aP,.bool true,.sl 1 [],.bool true,aP,.bool true,.sl 1 [],.bool true,aP,.bool true,.sl 1 []]]),lU 0]]),((c+144),lC [.iv (.sl 2 [[.int .i64 0,.int .i64 1],[.int .i64 1,.int .i64 0]]),.ref (c+136) 0 0 0,lI 0,lI 1]),((c+4624),lO 0 3 [[lI 1,.iv (.sl 16 [[.bool false,.sl 2 [[.int .i64 1,.int .i64 5]],.bool false,.sl 1 [],.bool true,aP,.bool true,.sl 1 [],.bool true,aP,.bool true,.sl 1 [],.bool true,aP,.bool true,.sl 1 []]]),lU 0]]),((c+3600),lC [lI 0,.iv (.aq 16),lU 0]),((c+4368),lO 0 4 [[lI 1,.iv (.sl 16 [[.bool false,.sl 2 [[.int .i64 1,.int .i64 5]],.bool false,.sl 1 [],.bool true,aP,.bool true,.sl 1 [],.bool true,aP,.bool true,.sl 1 [],.bool true,aP,.bool true,.sl 1 []]]),lU 0,.own (c+4356) 0 1 0]]),((c+42256),lO 0 3 [[lI 17,.own (c+40540) 0 1 0,lU 0]]),((c+1168),lO 0 1 [[lI 1]]),((c+41872),lC [lI 1]),((c+7056),lC [lI 1,lI 5]),((c+112),lO 0 1 [[lI 0],[lI 1]]),((c+240),lC [lI 1,lI 0]),((c+5104),lC [lI 1,lI 0]),((c+1520),lC [.own (c+1488) 0 1 0,.iv (.aq 1),lI 0,lU 0]),((c+12528),lC [lI (-9223372036854775808),lI 9223372036854775807]),((c+3824),.map []),((c+40688),lO 0 3 [[lI 1,.own (c+40540) 0 1 0,lU 0]]),((c+41840),lC [lI 1,.own (c+40540) 0 1 0,lU 0]),((c+42032),lC [lI 1,.own (c+40540) 0 1 0,lU 0]),((c+7216),lC [.iv (.int .u8 0),.iv (.int .u8 0),.iv (.int .u8 0),.iv (.int .u8 0),.iv (.int .u8 0),.iv (.int .u8 0),.iv (.int .u8 0),.iv (.int .u8 0),.iv (.int .u8 0),.iv (.int .u8 10)]),((c+15664),lC [.iv (.bool false),.own (c+40692) 0 1 0,.iv (.aq 1),lI 0,lI 0,lI 0,lI 0,.iv (.str ⟨#[]⟩),lI 0,lI 0,.iv (.str ⟨#[]⟩),lI 0,lI 0,.iv (.str ⟨#[]⟩),lI 0,lI 0,.iv (.str ⟨#[]⟩)]),((c+432),.map [(lI 0,.ref (c+596) 0 0 0)]),((c+14512),lC [.iv (.int .u8 0),.iv (.int .u8 0),.iv (.int .u8 0),.iv (.int .u8 0),.iv (.int .u8 0),.iv (.int .u8 0),.iv (.int .u8 0),.iv (.int .u8 0),.iv (.int .u8 0),.iv (.int .u8 0)]),((c+96),lC [.own (c+112) 0 2 0,.own (c+864) 0 2 1,.ref (c+144) 0 0 0,lI 2,lI 0,.iv (.aq 3),.iv (.aq 4)]),((c+8160),lC [lI (-9223372036854775808),lI 9223372036854775807]),((c+3552),lC [lI 31,.iv (.sl 16 [[.bool false,.sl 2 [[.int .i64 1,.int .i64 5]],.bool false,.sl 1 [],.bool true,aP,.bool true,.sl 1 [],.bool true,aP,.bool true,.sl 1 [],.bool true,aP,.bool true,.sl 1 []]]),lU 0]),((c+864),lO 1 1 [[.ref (c+452) 0 0 0],[.ref (c+1036) 0 0 0]]),((c+41312),lC [lI 1,.own (c+40540) 0 1 0,lU 0]),((c+4960),lO 0 18 [[lI 0,.iv (.bool false),.own (c+4812) 0 1 0,.iv (.aq 1),lI 0,lI 0,lI 0,lI 0,.iv (.str ⟨#[]⟩),lI 0,lI 0,.iv (.str ⟨#[]⟩),lI 0,lI 0,.iv (.str ⟨#[]⟩),lI 0,lI 0,.iv (.str ⟨#[]⟩)]]),((c+15520),lC [lI 1,lI 0]),((c+1696),.map [(lI 1,.bp 297 [.ref (c+96) 0 0 0] []),(lI 2,.bp 298 [.ref (c+96) 0 0 0] []),(lI 3,.bp 299 [.ref (c+96) 0 0 0] []),(lI 4,.bp 300 [.ref (c+96) 0 0 0] []),(lI 5,.bp 301 [.ref (c+96) 0 0 0] [])]),((c+15008),lC [lI 5,lI 0,lI 0,lI 0,lI 0,lI 0,lI 0,.iv (.bool false),.iv (.aq 2),.iv (.bool false),.iv (.aq 1),.iv (.aq 7),lI 0,lI 0,.iv (.str ⟨#[]⟩),lI 0,lI 0,.iv (.str ⟨#[]⟩),lI 0,lI 0,.iv (.str ⟨#[]⟩),lI 0,lI 0,.iv (.str ⟨#[]⟩)]),((c+1024),.map [(lI 0,.ref (c+1352) 0 0 0)]),((c+768),lC [.ref (c+796) 0 0 0,lU 0,.ref (c+760) 0 0 0,.iv (.aq 4),lI 0]),((c+3456),lC [.own (c+4812) 0 1 0,.iv (.aq 1)]),((c+18304),lO 0 2 [[lI 1,lI 5]]),((c+1344),.map [(lI 31,.agg [lI 31,.iv (.sl 16 [[.bool false,.sl 2 [[.int .i64 1,.int .i64 5]],.bool false,.sl 1 [],.bool true,aP,.bool true,.sl 1 [],.bool true,aP,.bool true,.sl 1 [],.bool true,aP,.bool true,.sl 1 []]]),lU 0])]),((c+1216),.map []),((c+29888),lO 0 2 [[lI (-9223372036854775808),lI 9223372036854775807]]),((c+3520),.map [(lI 31,.iv (.bool true))]),((c+4184),lC [lI 31,.iv (.sl 16 [[.bool false,.sl 2 [[.int .i64 1,.int .i64 5]],.bool false,.sl 1 [],.bool true,aP,.bool true,.sl 1 [],.bool true,aP,.bool true,.sl 1 [],.bool true,aP,.bool true,.sl 1 []]]),lU 0]),((c+1624),lC [lI 1,lI 0,.iv (.bool false),.own (c+1580) 0 1 0,.iv (.bool false),.iv (.aq 1),.iv (.aq 7)]),((c+40536),lO 0 16 [[.iv (.bool false),.own (c+18308) 0 1 0,.iv (.bool false),.iv (.aq 1),.iv (.bool true),.own (c+22732) 0 1 0,.iv (.bool true),.iv (.aq 1),.iv (.bool true),.own (c+29892) 0 1 0,.iv (.bool true),.iv (.aq 1),.iv (.bool true),.own (c+37052) 0 1 0,.iv (.bool true),.iv (.aq 1)]]),((c+536),lO 0 1 [[lI 0]]),((c+5656),lO 0 1 [[lI 1]]),((c+5272),lC [lI 1,.iv (.sl 16 [[.bool false,.sl 2 [[.int .i64 1,.int .i64 5]],.bool false,.sl 1 [],.bool true,aP,.bool true,.sl 1 [],.bool true,aP,.bool true,.sl 1 [],.bool true,aP,.bool true,.sl 1 []]]),lU 0]),((c+4760),lC [lI 1,.iv (.sl 16 [[.bool false,.sl 2 [[.int .i64 1,.int .i64 5]],.bool false,.sl 1 [],.bool true,aP,.bool true,.sl 1 [],.bool true,aP,.bool true,.sl 1 [],.bool true,aP,.bool true,.sl 1 []]]),lU 0,.own (c+4356) 0 1 0]),((c+41624),lC [.iv (.bool false),.own (c+40692) 0 1 0,.iv (.aq 1),lI 0,lI 0,lI 0,lI 0,.iv (.str ⟨#[]⟩),lI 0,lI 0,.iv (.str ⟨#[]⟩),lI 0,lI 0,.iv (.str ⟨#[]⟩),lI 0,lI 0,.iv (.str ⟨#[]⟩)]),((c+120),lC [.own (c+4) 0 1 0,.own (c+8) 0 2 0,lI 46,lU 0]),((c+1016),.map [(lI 1,.ref (c+1224) 0 0 0)]),((c+4600),lC [lI 1,.iv (.sl 16 [[.bool false,.sl 2 [[.int .i64 1,.int .i64 5]],.bool false,.sl 1 [],.bool true,aP,.bool true,.sl 1 [],.bool true,aP,.bool true,.sl 1 [],.bool true,aP,.bool true,.sl 1 []]]),lU 0,.own (c+4356) 0 1 0]),((c+760),.map []),((c+2296),lC [lI 1]),((c+3320),lO 0 3 [[lI 31,.iv (.sl 16 [[.bool false,.sl 2 [[.int .i64 1,.int .i64 5]],.bool false,.sl 1 [],.bool true,aP,.bool true,.sl 1 [],.bool true,aP,.bool true,.sl 1 [],.bool true,aP,.bool true,.sl 1 []]]),lU 0]]),((c+15480),lC [.iv (.bool false),.own (c+40692) 0 1 0,.iv (.aq 1),lI 0,lI 0,lI 0,lI 0,.iv (.str ⟨#[]⟩),lI 0,lI 0,.iv (.str ⟨#[]⟩),lI 0,lI 0,.iv (.str ⟨#[]⟩),lI 0,lI 0,.iv (.str ⟨#[]⟩)]),((c+15672),lC [.iv (.bool false),.own (c+40692) 0 1 0,.iv (.aq 1),lI 0,lI 0,lI 0,lI 0,.iv (.str ⟨#[]⟩),lI 0,lI 0,.iv (.str ⟨#[]⟩),lI 0,lI 0,.iv (.str ⟨#[]⟩),lI 0,lI 0,.iv (.str ⟨#[]⟩)]),((c+5944),lC [lI 1,.iv (.sl 16 [[.bool false,.sl 2 [[.int .i64 1,.int .i64 5]],.bool false,.sl 1 [],.bool true,aP,.bool true,.sl 1 [],.bool true,aP,.bool true,.sl 1 [],.bool true,aP,.bool true,.sl 1 []]]),lU 0]),((c+440),.map [(lI 1,.ref (c+768) 0 0 0)]),((c+2232),lC [lI 1,lI 0,.iv (.bool false),.own (c+1580) 0 1 0,.iv (.bool false),.iv (.aq 1),.iv (.aq 7)]),((c+37048),lO 0 2 [[lI (-9223372036854775808),lI 9223372036854775807]]),((c+15288),lC [lI 0,lI 1]),((c+8),.aZ 0 1 [[.int .i64 0],[.int .i64 1]]),((c+40),lC [.own (c+4) 0 1 0,.own (c+8) 0 2 0,lI 46,lU 0]),((c+10344),lC [lI (-9223372036854775808),lI 9223372036854775807]),((c+42600),lC [lI 0,lI 1]),((c+3496),.map []),((c+136),.map [(.agg [lI 0,lI 1],.iv (.aq 1)),(.agg [lI 1,lI 0],.own (c+14856) 1 0 0)]),((c+14856),lO 0 1 [[.iv (.str ⟨#[0,1,1,0,1,0,1,2,10,0,3,1,129,255,255,255,255,255,255,255,255,127,129,255,255,255,255,255,255,255,255,126,0,3,1,129,255,255,255,255,255,255,255,255,127,129,255,255,255,255,255,255,255,255,126,0,3,1,129,255,255,255,255,255,255,255,255,127,129,255,255,255,255,255,255,255,255,126,0,0]⟩)]]),((c+3720),lC [lI 31,.iv (.sl 16 [[.bool false,.sl 2 [[.int .i64 1,.int .i64 5]],.bool false,.sl 1 [],.bool true,aP,.bool true,.sl 1 [],.bool true,aP,.bool true,.sl 1 [],.bool true,aP,.bool true,.sl 1 []]]),lU 0]),((c+6024),lC [.iv (.int .u8 0),.iv (.int .u8 0),.iv (.int .u8 0),.iv (.int .u8 0),.iv (.int .u8 0),.iv (.int .u8 0),.iv (.int .u8 0),.iv (.int .u8 0),.iv (.int .u8 0),.iv (.int .u8 1)]),((c+5192),lC [.iv (.bool false),.own (c+4812) 0 1 0,.iv (.aq 1),lI 0,lI 0,lI 0,lI 0,.iv (.str ⟨#[]⟩),lI 0,lI 0,.iv (.str ⟨#[]⟩),lI 0,lI 0,.iv (.str ⟨#[]⟩),lI 0,lI 0,.iv (.str ⟨#[]⟩)]),((c+1352),lC [.ref (c+1380) 0 0 0,lU 0,.ref (c+1344) 0 0 0,.own (c+4368) 0 1 0,lI 1]),((c+1224),lC [lI 1,.own (c+3156) 0 1 0,.ref (c+1216) 0 0 0,.iv (.aq 1)]),((c+4296),lC [lI 1,.iv (.sl 16 [[.bool false,.sl 2 [[.int .i64 1,.int .i64 5]],.bool false,.sl 1 [],.bool true,aP,.bool true,.sl 1 [],.bool true,aP,.bool true,.sl 1 [],.bool true,aP,.bool true,.sl 1 []]]),lU 0]),((c+22728),lO 0 2 [[lI (-9223372036854775808),lI 9223372036854775807]]),((c+4808),lO 0 3 [[lI 1,.iv (.sl 16 [[.bool false,.sl 2 [[.int .i64 1,.int .i64 5]],.bool false,.sl 1 [],.bool true,aP,.bool true,.sl 1 [],.bool true,aP,.bool true,.sl 1 [],.bool true,aP,.bool true,.sl 1 []]]),lU 0]]),((c+41928),lO 0 3 [[lI 1,.own (c+40540) 0 1 0,lU 0]]),((c+12244),lO 0 1 (lB [3])),((c+5076),lC [.iv (.bool false),.own (c+4812) 0 1 0,.iv (.aq 1),lI 0,lI 0,lI 0,lI 0,.iv (.str ⟨#[]⟩),lI 0,lI 0,.iv (.str ⟨#[]⟩),lI 0,lI 0,.iv (.str ⟨#[]⟩),lI 0,lI 0,.iv (.str ⟨#[]⟩)]),((c+7124),lC [.iv (.int .u8 0),.iv (.int .u8 0),.iv (.int .u8 0),.iv (.int .u8 0),.iv (.int .u8 0),.iv (.int .u8 0),.iv (.int .u8 0),.iv (.int .u8 0),.iv (.int .u8 0),.iv (.int .u8 2)]),((c+15060),.map [(lI 1,.bp 297 [.ref (c+96) 0 0 0] []),(lI 2,.bp 298 [.ref (c+96) 0 0 0] []),(lI 3,.bp 299 [.ref (c+96) 0 0 0] []),(lI 4,.bp 300 [.ref (c+96) 0 0 0] []),(lI 5,.bp 301 [.ref (c+96) 0 0 0] [])]),((c+596),lC [lI 0,.iv (.aq 3),.ref (c+588) 0 0 0,.iv (.aq 1)]),((c+3156),lO 0 3 [[lI 1,.iv (.sl 16 [[.bool false,.sl 2 [[.int .i64 1,.int .i64 5]],.bool false,.sl 1 [],.bool true,aP,.bool true,.sl 1 [],.bool true,aP,.bool true,.sl 1 [],.bool true,aP,.bool true,.sl 1 []]]),lU 0]]),((c+1620),lC [.iv (.bool false),.own (c+1580) 0 1 0,.iv (.bool false),.iv (.aq 1)]),((c+5716),lC [.iv (.int .u8 0),.iv (.int .u8 0),.iv (.int .u8 0),.iv (.int .u8 0),.iv (.int .u8 0),.iv (.int .u8 0),.iv (.int .u8 0),.iv (.int .u8 0),.iv (.int .u8 0),.iv (.int .u8 1)]),((c+15700),lC [.iv (.str ⟨#[]⟩),lI 0]),((c+2068),lC [lI 1,lI 0,.iv (.bool false),.own (c+1580) 0 1 0,.iv (.bool false),.iv (.aq 1),.iv (.aq 7)]),((c+12308),lC [.iv (.int .u8 0),.iv (.int .u8 0),.iv (.int .u8 0),.iv (.int .u8 0),.iv (.int .u8 0),.iv (.int .u8 0),.iv (.int .u8 0),.iv (.int .u8 0),.iv (.int .u8 0),.iv (.int .u8 1)]),((c+788),.map []),((c+42260),lO 0 3 [[lI 17,.own (c+40540) 0 1 0,lU 0]]),((c+15348),lC [lI 1,lI 0]),((c+15860),lC [.own (c+40692) 0 1 0,.iv (.aq 1)]),((c+2292),lC [lI 1,lI 0,.iv (.bool false),.own (c+1580) 0 1 0,.iv (.bool false),.iv (.aq 1),.iv (.aq 7)]),((c+40692),lO 0 3 [[lI 1,.own (c+40540) 0 1 0,lU 0]]),((c+6260),lC [.iv (.int .u8 0),.iv (.int .u8 0),.iv (.int .u8 0),.iv (.int .u8 0),.iv (.int .u8 0),.iv (.int .u8 0),.iv (.int .u8 0),.iv (.int .u8 0),.iv (.int .u8 0),.iv (.int .u8 0)]),((c+14452),lO 0 1 [[lI 0]]),((c+33396),lC [.iv (.bool true),.own (c+37052) 0 1 0,.iv (.bool true),.iv (.aq 1)]),((c+6772),lO 0 1 (lB [0])),((c+3444),lC [.own (c+4812) 0 1 0,.iv (.aq 1)]),((c+12596),lC [.iv (.int .u8 129),.iv (.int .u8 255),.iv (.int .u8 255),.iv (.int .u8 255),.iv (.int .u8 255),.iv (.int .u8 255),.iv (.int .u8 255),.iv (.int .u8 255),.iv (.int .u8 255),.iv (.int .u8 127)]),((c+436),.map [(lI 1,.own (c+41932) 0 1 0)]),((c+6836),lC [.iv (.int .u8 0),.iv (.int .u8 0),.iv (.int .u8 0),.iv (.int .u8 0),.iv (.int .u8 0),.iv (.int .u8 0),.iv (.int .u8 0),.iv (.int .u8 0),.iv (.int .u8 0),.iv (.int .u8 1)]),((c+14004),lC [.iv (.int .u8 0),.iv (.int .u8 0),.iv (.int .u8 0),.iv (.int .u8 0),.iv (.int .u8 0),.iv (.int .u8 0),.iv (.int .u8 0),.iv (.int .u8 0),.iv (.int .u8 0),.iv (.int .u8 0)]),((c+4),.aZ 0 1 [[.int .i64 0]]),((c+6372),lC [.iv (.int .u8 0),.iv (.int .u8 0),.iv (.int .u8 0),.iv (.int .u8 0),.iv (.int .u8 0),.iv (.int .u8 0),.iv (.int .u8 0),.iv (.int .u8 0),.iv (.int .u8 0),.iv (.int .u8 1)]),((c+42212),lC [lI 17,.own (c+40540) 0 1 0,lU 0]),((c+1380),lC [lI 46,.ref (c+1372) 0 0 0,lI 0,lI 0]),((c+2916),.aZ 0 16 [[.bool false,.sl 2 [[.int .i64 1,.int .i64 5]],.bool false,.sl 1 [],.bool true,aP,.bool true,.sl 1 [],.bool true,aP,.bool true,.sl 1 [],.bool true,aP,.bool true,.sl 1 []]]),((c+8228),lC [.iv (.int .u8 129),.iv (.int .u8 255),.iv (.int .u8 255),.iv (.int .u8 255),.iv (.int .u8 255),.iv (.int .u8 255),.iv (.int .u8 255),.iv (.int .u8 255),.iv (.int .u8 255),.iv (.int .u8 127)]),((c+41764),lC [.own (c+40692) 0 1 0,.iv (.aq 1)]),((c+11044),lC [.iv (.int .u8 129),.iv (.int .u8 255),.iv (.int .u8 255),.iv (.int .u8 255),.iv (.int .u8 255),.iv (.int .u8 255),.iv (.int .u8 255),.iv (.int .u8 255),.iv (.int .u8 255),.iv (.int .u8 126)]),((c+3876),lC [.iv (.aq 1)]),((c+42660),lC [lI 1,lI 0]),((c+932),lC [.own (c+4) 0 1 0,.own (c+8) 0 2 0,lI 46,lU 0]),((c+1444),lO 0 1 [[.ref (c+1036) 0 0 0]]),((c+9636),lC [.iv (.int .u8 0),.iv (.int .u8 0),.iv (.int .u8 0),.iv (.int .u8 0),.iv (.int .u8 0),.iv (.int .u8 0),.iv (.int .u8 0),.iv (.int .u8 0),.iv (.int .u8 0),.iv (.int .u8 0)]),((c+5028),lC [lI 0,.iv (.bool false),.own (c+4812) 0 1 0,.iv (.aq 1),lI 0,lI 0,lI 0,lI 0,.iv (.str ⟨#[]⟩),lI 0,lI 0,.iv (.str ⟨#[]⟩),lI 0,lI 0,.iv (.str ⟨#[]⟩),lI 0,lI 0,.iv (.str ⟨#[]⟩)]),((c+1028),.map [(.agg [lI 1,lI 1],lI 31)]),((c+14852),lO 0 1 [[.iv (.str ⟨#[0,1,1,0,1,0,1,2,10,0,3,1,129,255,255,255,255,255,255,255,255,127,129,255,255,255,255,255,255,255,255,126,0,3,1,129,255,255,255,255,255,255,255,255,127,129,255,255,255,255,255,255,255,255,126,0,3,1,129,255,255,255,255,255,255,255,255,127,129,255,255,255,255,255,255,255,255,126,0,0]⟩)]]),((c+4356),lO 0 1 [[lI 31]]),((c+7940),lC [.iv (.int .u8 0),.iv (.int .u8 0),.iv (.int .u8 0),.iv (.int .u8 0),.iv (.int .u8 0),.iv (.int .u8 0),.iv (.int .u8 0),.iv (.int .u8 0),.iv (.int .u8 0),.iv (.int .u8 1)]),((c+15492),lC [.iv (.bool false),.own (c+40692) 0 1 0,.iv (.aq 1),lI 0,lI 0,lI 0,lI 0,.iv (.str ⟨#[]⟩),lI 0,lI 0,.iv (.str ⟨#[]⟩),lI 0,lI 0,.iv (.str ⟨#[]⟩),lI 0,lI 0,.iv (.str ⟨#[]⟩)]),((c+19076),lC [.iv (.bool true),.own (c+22732) 0 1 0,.iv (.bool true),.iv (.aq 1)]),((c+18308),lO 0 2 [[lI 1,lI 5]]),((c+452),lC [lU 0,.own (c+540) 0 1 0,.iv (.sl 1 [[.int .i64 1]]),.ref (c+432) 0 0 0,.ref (c+436) 0 0 0,.ref (c+440) 0 0 0,.ref (c+444) 0 0 0,lI 0,lI 0]),((c+29892),lO 0 2 [[lI (-9223372036854775808),lI 9223372036854775807]]),((c+7876),lO 0 1 (lB [3])),((c+17348),lC [.iv (.bool false),.own (c+18308) 0 1 0,.iv (.bool false),.iv (.aq 1),.iv (.bool true),.own (c+22732) 0 1 0,.iv (.bool true),.iv (.aq 1),.iv (.bool true),.own (c+29892) 0 1 0,.iv (.bool true),.iv (.aq 1),.iv (.bool true),.own (c+37052) 0 1 0,.iv (.bool true),.iv (.aq 1)]),((c+348),lC [.own (c+4) 0 1 0,.own (c+8) 0 2 0,lI 46,lU 0]),((c+40540),lO 0 16 [[.iv (.bool false),.own (c+18308) 0 1 0,.iv (.bool false),.iv (.aq 1),.iv (.bool true),.own (c+22732) 0 1 0,.iv (.bool true),.iv (.aq 1),.iv (.bool true),.own (c+29892) 0 1 0,.iv (.bool true),.iv (.aq 1),.iv (.bool true),.own (c+37052) 0 1 0,.iv (.bool true),.iv (.aq 1)]]),((c+860),lO 0 1 [[.ref (c+452) 0 0 0]]),((c+1372),.map []),((c+4956),lO 0 18 [[lI 0,.iv (.bool false),.own (c+4812) 0 1 0,.iv (.aq 1),lI 0,lI 0,lI 0,lI 0,.iv (.str ⟨#[]⟩),lI 0,lI 0,.iv (.str ⟨#[]⟩),lI 0,lI 0,.iv (.str ⟨#[]⟩),lI 0,lI 0,.iv (.str ⟨#[]⟩)]]),((c+540),lO 0 1 [[lI 0]]),((c+796),lC [lI 46,.ref (c+788) 0 0 0,lI 0,lI 0]),((c+7452),lC [.iv (.int .u8 0),.iv (.int .u8 0),.iv (.int .u8 0),.iv (.int .u8 0),.iv (.int .u8 0),.iv (.int .u8 0),.iv (.int .u8 0),.iv (.int .u8 0),.iv (.int .u8 0),.iv (.int .u8 0)]),((c+8860),lC [.iv (.int .u8 129),.iv (.int .u8 255),.iv (.int .u8 255),.iv (.int .u8 255),.iv (.int .u8 255),.iv (.int .u8 255),.iv (.int .u8 255),.iv (.int .u8 255),.iv (.int .u8 255),.iv (.int .u8 126)]),((c+1020),.map []),((c+26236),lC [.iv (.bool true),.own (c+29892) 0 1 0,.iv (.bool true),.iv (.aq 1)]),((c+188),lC [lI 0,lI 1]),((c+444),.map []),((c+37052),lO 0 2 [[lI (-9223372036854775808),lI 9223372036854775807]]),((c+17388),lC [.iv (.bool false),.own (c+18308) 0 1 0,.iv (.bool false),.iv (.aq 1)]),((c+5612),lO 0 1 (lB [0])),((c+1644),lC [lI 1,lI 1,lI 0,lI 0,lI 0,lI 1,lI 0,.iv (.bool false),.own (c+1580) 0 1 0,.iv (.bool false),.iv (.aq 1),.iv (.aq 7),lI 0,lI 0,.iv (.str ⟨#[]⟩),lI 0,lI 0,.iv (.str ⟨#[]⟩),lI 0,lI 0,.iv (.str ⟨#[]⟩),lI 0,lI 0,.iv (.str ⟨#[]⟩)]),((c+1580),.aZ 0 2 [[.int .i64 1,.int .i64 5]]),((c+11820),lC [.iv (.int .u8 0),.iv (.int .u8 0),.iv (.int .u8 0),.iv (.int .u8 0),.iv (.int .u8 0),.iv (.int .u8 0),.iv (.int .u8 0),.iv (.int .u8 0),.iv (.int .u8 0),.iv (.int .u8 0)]),((c+10412),lC [.iv (.int .u8 129),.iv (.int .u8 255),.iv (.int .u8 255),.iv (.int .u8 255),.iv (.int .u8 255),.iv (.int .u8 255),.iv (.int .u8 255),.iv (.int .u8 255),.iv (.int .u8 255),.iv (.int .u8 127)]),((c+13228),lC [.iv (.int .u8 129),.iv (.int .u8 255),.iv (.int .u8 255),.iv (.int .u8 255),.iv (.int .u8 255),.iv (.int .u8 255),.iv (.int .u8 255),.iv (.int .u8 255),.iv (.int .u8 255),.iv (.int .u8 126)]),((c+16300),lC [lI 1,.own (c+40540) 0 1 0,lU 0]),((c+1036),lC [lU 0,.own (c+1168) 0 1 0,.iv (.sl 1 [[.int .i64 0]]),.ref (c+1016) 0 0 0,.ref (c+1020) 0 0 0,.ref (c+1024) 0 0 0,.ref (c+1028) 0 0 0,lI 1,lI 0]),((c+4620),lO 0 3 [[lI 1,.iv (.sl 16 [[.bool false,.sl 2 [[.int .i64 1,.int .i64 5]],.bool false,.sl 1 [],.bool true,aP,.bool true,.sl 1 [],.bool true,aP,.bool true,.sl 1 [],.bool true,aP,.bool true,.sl 1 []]]),lU 0]]),((c+4364),lO 0 4 [[lI 1,.iv (.sl 16 [[.bool false,.sl 2 [[.int .i64 1,.int .i64 5]],.bool false,.sl 1 [],.bool true,aP,.bool true,.sl 1 [],.bool true,aP,.bool true,.sl 1 [],.bool true,aP,.bool true,.sl 1 []]]),lU 0,.own (c+4356) 0 1 0]]),((c+4876),lC [.ref (c+3824) 0 0 0]),((c+1164),lO 0 1 [[lI 1]]),((c+10124),lC [.iv (.int .u8 0),.iv (.int .u8 0),.iv (.int .u8 0),.iv (.int .u8 0),.iv (.int .u8 0),.iv (.int .u8 0),.iv (.int .u8 0),.iv (.int .u8 0),.iv (.int .u8 0),.iv (.int .u8 1)]),((c+588),.map []),((c+4428),lC [.ref (c+1352) 0 0 0]),((c+5964),lO 0 1 [[lI 1]]),((c+10060),lO 0 1 (lB [3])),((c+22732),lO 0 2 [[lI (-9223372036854775808),lI 9223372036854775807]]),((c+4812),lO 0 3 [[lI 1,.iv (.sl 16 [[.bool false,.sl 2 [[.int .i64 1,.int .i64 5]],.bool false,.sl 1 [],.bool true,aP,.bool true,.sl 1 [],.bool true,aP,.bool true,.sl 1 [],.bool true,aP,.bool true,.sl 1 []]]),lU 0]]),((c+41932),lO 0 3 [[lI 1,.own (c+40540) 0 1 0,lU 0]]),((c+5618),.aZ 4 1 [[.int .u8 0],[.int .u8 1],[.int .u8 1],[.int .u8 0],[.int .u8 1],[.int .u8 0],[.int .u8 1],[.int .u8 2],[.int .u8 10],[.int .u8 0],[.int .u8 3],[.int .u8 1],[.int .u8 129],[.int .u8 255],[.int .u8 255],[.int .u8 255],[.int .u8 255],[.int .u8 255],[.int .u8 255],[.int .u8 255],[.int .u8 255],[.int .u8 127],[.int .u8 129],[.int .u8 255],[.int .u8 255],[.int .u8 255],[.int .u8 255],[.int .u8 255],[.int .u8 255],[.int .u8 255],[.int .u8 255],[.int .u8 126],[.int .u8 0],[.int .u8 3],[.int .u8 1],[.int .u8 129],[.int .u8 255],[.int .u8 255],[.int .u8 255],[.int .u8 255],[.int .u8 255],[.int .u8 255],[.int .u8 255],[.int .u8 255],[.int .u8 127],[.int .u8 129],[.int .u8 255],[.int .u8 255],[.int .u8 255],[.int .u8 255],[.int .u8 255],[.int .u8 255],[.int .u8 255],[.int .u8 255],[.int .u8 126],[.int .u8 0],[.int .u8 3],[.int .u8 1],[.int .u8 129],[.int .u8 255],[.int .u8 255],[.int .u8 255],[.int .u8 255],[.int .u8 255],[.int .u8 255],[.int .u8 255],[.int .u8 255],[.int .u8 127],[.int .u8 129],[.int .u8 255],[.int .u8 255],[.int .u8 255],[.int .u8 255],[.int .u8 255],[.int .u8 255],[.int .u8 255],[.int .u8 255],[.int .u8 126],[.int .u8 0],[.int .u8 0]]),((c+6534),.aZ 16 1 [[.int .u8 1],[.int .u8 0],[.int .u8 1],[.int .u8 2],[.int .u8 10],[.int .u8 0],[.int .u8 3],[.int .u8 1],[.int .u8 129],[.int .u8 255],[.int .u8 255],[.int .u8 255],[.int .u8 255],[.int .u8 255],[.int .u8 255],[.int .u8 255],[.int .u8 255],[.int .u8 127],[.int .u8 129],[.int .u8 255],[.int .u8 255],[.int .u8 255],[.int .u8 255],[.int .u8 255],[.int .u8 255],[.int .u8 255],[.int .u8 255],[.int .u8 126],[.int .u8 0],[.int .u8 3],[.int .u8 1],[.int .u8 129],[.int .u8 255],[.int .u8 255],[.int .u8 255],[.int .u8 255],[.int .u8 255],[.int .u8 255],[.int .u8 255],[.int .u8 255],[.int .u8 127],[.int .u8 129],[.int .u8 255],[.int .u8 255],[.int .u8 255],[.int .u8 255],[.int .u8 255],[.int .u8 255],[.int .u8 255],[.int .u8 255],[.int .u8 126],[.int .u8 0],[.int .u8 3],[.int .u8 1],[.int .u8 129],[.int .u8 255],[.int .u8 255],[.int .u8 255],[.int .u8 255],[.int .u8 255],[.int .u8 255],[.int .u8 255],[.int .u8 255],[.int .u8 127],[.int .u8 129],[.int .u8 255],[.int .u8 255],[.int .u8 255],[.int .u8 255],[.int .u8 255],[.int .u8 255],[.int .u8 255],[.int .u8 255],[.int .u8 126],[.int .u8 0]])] .nil,b+10685⟩
end aB
